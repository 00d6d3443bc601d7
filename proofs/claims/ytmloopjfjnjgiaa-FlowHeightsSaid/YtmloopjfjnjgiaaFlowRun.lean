/-
  The laws of chapter 18: what they share: the functions without a body, the first answer ('awake'), the program's facts.
-/
import Derived.Test.YtmloopjfjnjgiaaCls
import Derived.Test.YtmloopjfjnjgiaaProg
import Derived.KernelRfl
namespace Go.Proofs.Ytmloopjfjnjgiaa
open Go Vx

noncomputable def vext (_ : FuncId) : Option Ext := none
theorem vext_ok (f : FuncId) (x : Ext) (h : vext f = some x) : Ext.OK Try.prog f x := by cases h
theorem mixed : Try.prog.follows .mixedOrders = true := by kernel_rfl
theorem noNames : NoNG Try.prog := noNG_ok (by kernel_rfl)
set_option maxRecDepth 100000 in
theorem awake_run : lawZ Try.prog (extD vext) 200000 4 [] = true := by decide +kernel
noncomputable def runM (aw : FuncId) (iv : List IV) (l : List MK) (f : FuncId) (args : List AV) : Bool := lawZ Try.prog (wD vext aw iv l) 2000000 f args
theorem runM_calls {aw : FuncId} {n : Nat} (haw : lawZ Try.prog (extD vext) n aw [] = true) {ρ : Nat → Int} {iv : List IV} (hi : ∀ c ∈ iv, c.OK ρ) {l : List MK} (hl : ∀ c ∈ l, c.OK ρ) {f : FuncId} (hf : f ≠ 0) {args : List AV} (h : runM aw iv l f args = true) {args' : Array Value} (ha : VRs (fun _ => none) ρ args args'.toList) (w : World) :
    Calls Try.prog f args' w fun e w' => e = .returned (.bool true) ∧ Go.RowKit.Below w.heap.size w w' :=
  lawY_calls mixed noNames (wZ_ok mixed noNames vext_ok haw hi hl) hf ((lawZ_eq _ _ _ _ _).symm.trans h) ha w
end Go.Proofs.Ytmloopjfjnjgiaa
