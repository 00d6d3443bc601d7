/-
  The laws of chapter 19: what they share: the functions without a body, the first answer ('awake'), the program's facts.
-/
import Derived.Test.YtbfbiggmckbenaaGreatDoorVx32
import Derived.Test.YtbfbiggmckbenaaGreatDoorProg
import Derived.KernelRfl
namespace Go.Proofs.YtbfbiggmckbenaaGreatDoor
open Go Vx

noncomputable def vext (f : FuncId) : Option Ext :=
  match Nat.beq f 127 with
  | true => some .same
  | false => match Nat.beq f 128 with
    | true => some (.noZero 137 5)
    | false => none
theorem vext_ok (f : FuncId) (x : Ext) (h : vext f = some x) : Ext.OK Tryz.prog f x := by
  unfold vext at h
  split at h
  · rename_i hf
    have hf := Nat.eq_of_beq_eq_true hf
    subst hf
    cases h
    intro v w
    rw [run_callFunc_extern Tryz.func127 (by kernel_rfl) (by kernel_rfl) (by kernel_rfl) (e := Extern.AbiNoEscape.same) (by kernel_rfl)]
    rfl
  · split at h
    · rename_i hf
      have hf := Nat.eq_of_beq_eq_true hf
      subst hf
      cases h
      exact ⟨Tryz.underlying137, Tryz.f128.params, fun args w => run_callFunc_extern Tryz.func128 (by kernel_rfl) (by kernel_rfl) (by kernel_rfl) (e := Extern.BytealgMakeNoZero.makeNoZero Tryz.f128.params #[137]) (by kernel_rfl) args w⟩
    · cases h
theorem mixed : Tryz.prog.follows .mixedOrders = true := by kernel_rfl
theorem noNames : NoNG Tryz.prog := noNG_ok (by kernel_rfl)
set_option maxRecDepth 100000 in
theorem awake_run : lawB Tryz.prog (extD vext) 100000 8 [] = true := by decide +kernel
noncomputable def vars (n : Nat) : List AV := Nat.rec (motive := fun _ => Nat → List AV) (fun _ => []) (fun _ ih i => .int .i64 (.var i) :: ih (Nat.succ i)) n 0
noncomputable def rho3 (a b c : Int) : Nat → Int := fun i => match i with
  | 0 => a
  | 1 => b
  | _ => c
theorem vars3 (a b c : Int) : VRs (fun _ => none) (rho3 a b c) (vars 3) [.int .i64 a, .int .i64 b, .int .i64 c] :=
  .cons (.int rfl) (.cons (.int rfl) (.cons (.int rfl) .nil))
noncomputable def valM (l : List MK) (cls : List (List MK)) (f : FuncId) (args : List AV) : Bool := lawX Tryz.prog (lawE vext 8 l cls) 200000 f args
theorem valM_calls {ρ : Nat → Int} {l : List MK} {cls : List (List MK)} (hl : ∀ c ∈ l, c.OK ρ) (hc : InCls ρ cls) {f : FuncId} (hf : f ≠ 0) {args : List AV} (h : valM l cls f args = true) {args' : Array Value} (ha : VRs (fun _ => none) ρ args args'.toList) (w : World) :
    Calls Tryz.prog f args' w fun e w' => e = .returned (.bool true) ∧ Go.RowKit.Below w.heap.size w w' :=
  lawF_calls mixed noNames (lawE_ok mixed noNames vext_ok awake_run hl hc) hf ((lawX_eq _ _ _ _ _).symm.trans h) ha w
theorem all_nil {ρ : Nat → Int} : ∀ c ∈ ([] : List MK), c.OK ρ := fun c hc => by cases hc
theorem all_cons {ρ : Nat → Int} {c : MK} {l : List MK} (h : c.OK ρ) (hs : ∀ c ∈ l, c.OK ρ) : ∀ x ∈ c :: l, x.OK ρ := fun x hx => by
  rcases List.mem_cons.1 hx with rfl | hx
  · exact h
  · exact hs x hx
theorem anyCls {ρ : Nat → Int} : InCls ρ [[]] := ⟨[], List.mem_cons_self, fun c hc => by cases hc⟩
end Go.Proofs.YtbfbiggmckbenaaGreatDoor
