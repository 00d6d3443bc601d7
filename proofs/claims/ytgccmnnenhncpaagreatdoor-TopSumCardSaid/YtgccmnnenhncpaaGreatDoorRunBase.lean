/-
  The laws of chapter 26 and of the whole: the first answers ('awake'), a law that is run.
-/
import Derived.Test.YtgccmnnenhncpaaGreatDoorRunPre
namespace Go.Proofs.YtgccmnnenhncpaaGreatDoor
open Go Vx
set_option maxRecDepth 100000 in
theorem awake_run : lawZ Tryz.prog (extD vext) 200000 8 [] = true := by decide +kernel
set_option maxRecDepth 100000 in
theorem awake_top : lawZ Tryz.prog (extD vext) 200000 16 [] = true := by decide +kernel
noncomputable def runM (aw : FuncId) (iv : List IV) (l : List MK) (f : FuncId) (args : List AV) : Bool := lawZ Tryz.prog (wD vext aw iv l) 2000000 f args
theorem runM_calls {aw : FuncId} {n : Nat} (haw : lawZ Tryz.prog (extD vext) n aw [] = true) {ρ : Env} {iv : List IV} (hi : ∀ c ∈ iv, c.OK ρ) {l : List MK} (hl : ∀ c ∈ l, c.OK ρ) {f : FuncId} (hf : f ≠ 0) {args : List AV} (h : runM aw iv l f args = true) {args' : Array Value} (ha : VRs (fun _ => none) ρ args args'.toList) (w : World) (h0 : ρ.cnt = 0 := by rfl) :
    Calls Tryz.prog f args' w fun e w' => e = .returned (.bool true) ∧ Go.RowKit.Below w.heap.size w w' :=
  lawY_calls mixed noNames (wZ_ok mixed noNames vext_ok haw hi hl) hf ((lawZ_eq _ _ _ _ _).symm.trans h) ha w h0
noncomputable def ckM (aw : FuncId) (k : List CK) (l : List MK) (f : FuncId) (args : List AV) : Bool := lawZ Tryz.prog (kD vext aw [] k l) 2000000 f args
theorem ckM_calls {aw : FuncId} {n : Nat} (haw : lawZ Tryz.prog (extD vext) n aw [] = true) {ρ : Env} {k : List CK} (hk : ∀ c ∈ k, c.OK ρ) {l : List MK} (hl : ∀ c ∈ l, c.OK ρ) {f : FuncId} (hf : f ≠ 0) {args : List AV} (h : ckM aw k l f args = true) {args' : Array Value} (ha : VRs (fun _ => none) ρ args args'.toList) (w : World) (hi : InpOK ⟨fun b => b < w.heap.size, fun _ => False⟩ ρ w) :
    Calls Tryz.prog f args' w fun e w' => e = .returned (.bool true) ∧ Go.RowKit.Below w.heap.size w w' :=
  lawY_callsI mixed noNames (kZ_ok mixed noNames vext_ok haw ivs_nil hk hl) hf ((lawZ_eq _ _ _ _ _).symm.trans h) ha w hi
end Go.Proofs.YtgccmnnenhncpaaGreatDoor
