/-
  The laws of chapter 22: what they share: the functions without a body, the first answer ('awake'), the program's facts.
-/
import Derived.Test.YteapooonilhaiaaGreatDoorCls
import Derived.Test.YteapooonilhaiaaGreatDoorProg
import Derived.KernelRfl
namespace Go.Proofs.YteapooonilhaiaaGreatDoor
open Go Vx

noncomputable def fromB (k : FloatKind) (ik : IntKind) (l : List AV) : Option AV :=
  match l with
  | [v] => match v with
    | .int k' e => match e with
      | .lit n => match n with
        | .ofNat m => match kindB k' ik with
          | true => some (.float k m)
          | false => none
        | .negSucc _ => none
      | _ => none
    | _ => none
  | _ => none
theorem fromB_ok {k : FloatKind} {ik : IntKind} {l : List AV} {v : AV} (h : fromB k ik l = some v) {μ : Mu} {ρ : Nat → Int} {l' : List Value} (hl : VRs μ ρ l l') : ∃ m : Nat, l' = [.int ik (m : Int)] ∧ v = .float k m := by
  unfold fromB at h
  split at h
  · split at h
    · split at h
      · split at h
        · split at h
          · rename_i hk
            have hk := kindB_eq hk
            subst hk
            cases h
            cases hl with
            | cons h1 h2 =>
            cases h2
            cases h1 with
            | int he => exact ⟨_, by rw [← he]; rfl, rfl⟩
          · cases h
        · cases h
      · cases h
    · cases h
  · cases h
/-- What is cut: the one float that the laws cut, positive infinity. -/
noncomputable def truncA (l : List AV) : Option AV :=
  match l with
  | [v] => match v with
    | .float k x => match fkEq k .f64 with
      | true => match Nat.beq x 9218868437227405312 with
        | true => some (.float .f64 x)
        | false => none
      | false => none
    | _ => none
  | _ => none
theorem truncA_ok {P : Program} {l : List AV} {v : AV} (h : truncA l = some v) {μ : Mu} {ρ : Nat → Int} {l' : List Value} (hl : VRs μ ρ l l') (w : World) : ∃ x : Nat, v = .float .f64 x ∧ (Extern.MathFloor.toIntegral "math.archTrunc" .zero l'.toArray).run P w = .ok (.float .f64 x) w := by
  unfold truncA at h
  split at h
  · split at h
    · split at h
      · rename_i hk
        have hk := fkEq_ok hk
        subst hk
        split at h
        · rename_i hx
          have hx := Nat.eq_of_beq_eq_true hx
          subst hx
          cases h
          cases hl with
          | cons h1 h2 =>
          cases h2
          cases h1
          exact ⟨_, rfl, rfl⟩
        · cases h
      · cases h
    · cases h
  · cases h
noncomputable def vext (f : FuncId) : Option Ext :=
  match Nat.beq f 207 with
  | true => some .same
  | false => match Nat.beq f 208 with
    | true => some (.noZero 177 5)
    | false => match Nat.beq f 295 with
      | true => some (.fn (fromB .f64 .u64))
      | false => match Nat.beq f 286 with
        | true => some (.fn (fromB .f32 .u32))
        | false => match Nat.beq f 292 with
          | true => some (.fn truncA)
          | false => none
theorem vext_ok (f : FuncId) (x : Ext) (h : vext f = some x) : Ext.OK Tryz.prog f x := by
  unfold vext at h
  split at h
  · rename_i hf
    have hf := Nat.eq_of_beq_eq_true hf
    subst hf
    cases h
    intro v w
    rw [run_callFunc_extern Tryz.func207 (by kernel_rfl) (by kernel_rfl) (by kernel_rfl) (e := Extern.AbiNoEscape.same) (by kernel_rfl)]
    rfl
  · split at h
    · rename_i hf
      have hf := Nat.eq_of_beq_eq_true hf
      subst hf
      cases h
      exact ⟨Tryz.underlying177, Tryz.f208.params, fun args w => run_callFunc_extern Tryz.func208 (by kernel_rfl) (by kernel_rfl) (by kernel_rfl) (e := Extern.BytealgMakeNoZero.makeNoZero Tryz.f208.params #[177]) (by kernel_rfl) args w⟩
    · split at h
      · rename_i hf
        have hf := Nat.eq_of_beq_eq_true hf
        subst hf
        cases h
        intro l v h μ ρ l' hl w
        obtain ⟨m, rfl, rfl⟩ := fromB_ok h hl
        refine ⟨.float .f64 m, ?_, .float⟩
        rw [run_callFunc_extern Tryz.func295 (by kernel_rfl) (by kernel_rfl) (by kernel_rfl) (e := Extern.MathFloatBits.float64frombits) (by kernel_rfl)]
        rfl
      · split at h
        · rename_i hf
          have hf := Nat.eq_of_beq_eq_true hf
          subst hf
          cases h
          intro l v h μ ρ l' hl w
          obtain ⟨m, rfl, rfl⟩ := fromB_ok h hl
          refine ⟨.float .f32 m, ?_, .float⟩
          rw [run_callFunc_extern Tryz.func286 (by kernel_rfl) (by kernel_rfl) (by kernel_rfl) (e := Extern.MathFloatBits.float32frombits) (by kernel_rfl)]
          rfl
        · split at h
          · rename_i hf
            have hf := Nat.eq_of_beq_eq_true hf
            subst hf
            cases h
            intro l v h μ ρ l' hl w
            obtain ⟨x, rfl, hr⟩ := truncA_ok (P := Tryz.prog) h hl w
            refine ⟨.float .f64 x, ?_, .float⟩
            rw [run_callFunc_extern Tryz.func292 (by kernel_rfl) (by kernel_rfl) (by kernel_rfl) (e := Extern.MathFloor.toIntegral "math.archTrunc" .zero) (by kernel_rfl), hr]
            rfl
          · cases h
theorem mixed : Tryz.prog.follows .mixedOrders = true := by kernel_rfl
theorem noNames : NoNG Tryz.prog := noNG_ok (by kernel_rfl)
set_option maxRecDepth 100000 in
theorem awake_run : lawZ Tryz.prog (extD vext) 100000 5 [] = true := by decide +kernel
noncomputable def vars (n : Nat) : List AV := Nat.rec (motive := fun _ => Nat → List AV) (fun _ => []) (fun _ ih i => .int .i64 (.var i) :: ih (Nat.succ i)) n 0
noncomputable def rho3 (a b c : Int) : Nat → Int := fun i => match i with
  | 0 => a
  | 1 => b
  | _ => c
theorem vars3 (a b c : Int) : VRs (fun _ => none) (rho3 a b c) (vars 3) [.int .i64 a, .int .i64 b, .int .i64 c] :=
  .cons (.int rfl) (.cons (.int rfl) (.cons (.int rfl) .nil))
noncomputable def walkM (l : List MK) (f : FuncId) (args : List AV) : Bool := lawZ Tryz.prog (wD vext 5 [] l) 200000 f args
theorem walkM_calls {ρ : Nat → Int} {l : List MK} (hl : ∀ c ∈ l, c.OK ρ) {f : FuncId} (hf : f ≠ 0) {args : List AV} (h : walkM l f args = true) {args' : Array Value} (ha : VRs (fun _ => none) ρ args args'.toList) (w : World) :
    Calls Tryz.prog f args' w fun e w' => e = .returned (.bool true) ∧ Go.RowKit.Below w.heap.size w w' :=
  lawY_calls mixed noNames (wZ_ok mixed noNames vext_ok awake_run (fun c hc => by cases hc) hl) hf ((lawZ_eq _ _ _ _ _).symm.trans h) ha w
noncomputable def runM (aw : FuncId) (iv : List IV) (l : List MK) (f : FuncId) (args : List AV) : Bool := lawZ Tryz.prog (wD vext aw iv l) 2000000 f args
theorem runM_calls {aw : FuncId} {n : Nat} (haw : lawZ Tryz.prog (extD vext) n aw [] = true) {ρ : Nat → Int} {iv : List IV} (hi : ∀ c ∈ iv, c.OK ρ) {l : List MK} (hl : ∀ c ∈ l, c.OK ρ) {f : FuncId} (hf : f ≠ 0) {args : List AV} (h : runM aw iv l f args = true) {args' : Array Value} (ha : VRs (fun _ => none) ρ args args'.toList) (w : World) :
    Calls Tryz.prog f args' w fun e w' => e = .returned (.bool true) ∧ Go.RowKit.Below w.heap.size w w' :=
  lawY_calls mixed noNames (wZ_ok mixed noNames vext_ok haw hi hl) hf ((lawZ_eq _ _ _ _ _).symm.trans h) ha w
end Go.Proofs.YteapooonilhaiaaGreatDoor
