/-
  The laws of chapter 21: what they share: the functions without a body, the first answer ('awake'), the program's facts.
-/
import Derived.Test.YtbehooekcpfgcaaGreatDoorCls
import Derived.Test.YtbehooekcpfgcaaGreatDoorProg
import Derived.KernelRfl
namespace Go.Proofs.YtbehooekcpfgcaaGreatDoor
open Go Vx

noncomputable def vext (f : FuncId) : Option Ext :=
  match Nat.beq f 163 with
  | true => some .same
  | false => match Nat.beq f 164 with
    | true => some (.noZero 88 5)
    | false => none
theorem vext_ok (f : FuncId) (x : Ext) (h : vext f = some x) : Ext.OK Tryz.prog f x := by
  unfold vext at h
  split at h
  · rename_i hf
    have hf := Nat.eq_of_beq_eq_true hf
    subst hf
    cases h
    intro v w
    rw [run_callFunc_extern Tryz.func163 (by kernel_rfl) (by kernel_rfl) (by kernel_rfl) (e := Extern.AbiNoEscape.same) (by kernel_rfl)]
    rfl
  · split at h
    · rename_i hf
      have hf := Nat.eq_of_beq_eq_true hf
      subst hf
      cases h
      exact ⟨Tryz.underlying88, Tryz.f164.params, fun args w => run_callFunc_extern Tryz.func164 (by kernel_rfl) (by kernel_rfl) (by kernel_rfl) (e := Extern.BytealgMakeNoZero.makeNoZero Tryz.f164.params #[88]) (by kernel_rfl) args w⟩
    · cases h
theorem mixed : Tryz.prog.follows .mixedOrders = true := by kernel_rfl
theorem noNames : NoNG Tryz.prog := noNG_ok (by kernel_rfl)
set_option maxRecDepth 100000 in
theorem awake_run : lawZ Tryz.prog (extD vext) 200000 4 [] = true := by decide +kernel
noncomputable def runM (aw : FuncId) (iv : List IV) (l : List MK) (f : FuncId) (args : List AV) : Bool := lawZ Tryz.prog (wD vext aw iv l) 2000000 f args
theorem runM_calls {aw : FuncId} {n : Nat} (haw : lawZ Tryz.prog (extD vext) n aw [] = true) {ρ : Nat → Int} {iv : List IV} (hi : ∀ c ∈ iv, c.OK ρ) {l : List MK} (hl : ∀ c ∈ l, c.OK ρ) {f : FuncId} (hf : f ≠ 0) {args : List AV} (h : runM aw iv l f args = true) {args' : Array Value} (ha : VRs (fun _ => none) ρ args args'.toList) (w : World) :
    Calls Tryz.prog f args' w fun e w' => e = .returned (.bool true) ∧ Go.RowKit.Below w.heap.size w w' :=
  lawY_calls mixed noNames (wZ_ok mixed noNames vext_ok haw hi hl) hf ((lawZ_eq _ _ _ _ _).symm.trans h) ha w
end Go.Proofs.YtbehooekcpfgcaaGreatDoor
