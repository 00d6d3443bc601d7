/-
  The laws of chapter 22: what they share: the functions without a body, the first answer ('awake'), the program's facts.
-/
import Derived.Test.YtmgejgbomglegaaGreatDoorVmF
import Derived.Test.YtmgejgbomglegaaGreatDoorProg
import Derived.KernelRfl
namespace Go.Proofs.YtmgejgbomglegaaGreatDoor
open Go Vx

noncomputable def fromB (k : FloatKind) (ik : IntKind) (l : List AV) : Option AV :=
  match l with
  | [v] => match v with
    | .int k' e => match e with
      | .lit n => match n with
        | .ofNat m => match kindB k' ik with
          | true => some (.float k m)
          | false => none
        | .negSucc _ => none
      | _ => none
    | _ => none
  | _ => none
theorem fromB_ok {k : FloatKind} {ik : IntKind} {l : List AV} {v : AV} (h : fromB k ik l = some v) {μ : Mu} {ρ : Nat → Int} {l' : List Value} (hl : VRs μ ρ l l') : ∃ m : Nat, l' = [.int ik (m : Int)] ∧ v = .float k m := by
  unfold fromB at h
  split at h
  · split at h
    · split at h
      · split at h
        · split at h
          · rename_i hk
            have hk := kindB_eq hk
            subst hk
            cases h
            cases hl with
            | cons h1 h2 =>
            cases h2
            cases h1 with
            | int he => exact ⟨_, by rw [← he]; rfl, rfl⟩
          · cases h
        · cases h
      · cases h
    · cases h
  · cases h
/-- What is cut: the one float that the laws cut, positive infinity. -/
noncomputable def truncA (l : List AV) : Option AV :=
  match l with
  | [v] => match v with
    | .float k x => match fkEq k .f64 with
      | true => match Nat.beq x 9218868437227405312 with
        | true => some (.float .f64 x)
        | false => none
      | false => none
    | _ => none
  | _ => none
theorem truncA_ok {P : Program} {l : List AV} {v : AV} (h : truncA l = some v) {μ : Mu} {ρ : Nat → Int} {l' : List Value} (hl : VRs μ ρ l l') (w : World) : ∃ x : Nat, v = .float .f64 x ∧ (Extern.MathFloor.toIntegral "math.archTrunc" .zero l'.toArray).run P w = .ok (.float .f64 x) w := by
  unfold truncA at h
  split at h
  · split at h
    · split at h
      · rename_i hk
        have hk := fkEq_ok hk
        subst hk
        split at h
        · rename_i hx
          have hx := Nat.eq_of_beq_eq_true hx
          subst hx
          cases h
          cases hl with
          | cons h1 h2 =>
          cases h2
          cases h1
          exact ⟨_, rfl, rfl⟩
        · cases h
      · cases h
    · cases h
  · cases h
noncomputable def vext (f : FuncId) : Option Ext :=
  match Nat.beq f 212 with
  | true => some .same
  | false => match Nat.beq f 213 with
    | true => some (.noZero 179 5)
    | false => match Nat.beq f 300 with
      | true => some (.fn (fromB .f64 .u64))
      | false => match Nat.beq f 291 with
        | true => some (.fn (fromB .f32 .u32))
        | false => match Nat.beq f 297 with
          | true => some (.fn truncA)
          | false => none
theorem vext_ok (f : FuncId) (x : Ext) (h : vext f = some x) : Ext.OK Tryz.prog f x := by
  unfold vext at h
  split at h
  · rename_i hf
    have hf := Nat.eq_of_beq_eq_true hf
    subst hf
    cases h
    intro v w
    rw [run_callFunc_extern Tryz.func212 (by kernel_rfl) (by kernel_rfl) (by kernel_rfl) (e := Extern.AbiNoEscape.same) (by kernel_rfl)]
    rfl
  · split at h
    · rename_i hf
      have hf := Nat.eq_of_beq_eq_true hf
      subst hf
      cases h
      exact ⟨Tryz.underlying179, Tryz.f213.params, fun args w => run_callFunc_extern Tryz.func213 (by kernel_rfl) (by kernel_rfl) (by kernel_rfl) (e := Extern.BytealgMakeNoZero.makeNoZero Tryz.f213.params #[179]) (by kernel_rfl) args w⟩
    · split at h
      · rename_i hf
        have hf := Nat.eq_of_beq_eq_true hf
        subst hf
        cases h
        intro l v h μ ρ l' hl w
        obtain ⟨m, rfl, rfl⟩ := fromB_ok h hl
        refine ⟨.float .f64 m, ?_, .float⟩
        rw [run_callFunc_extern Tryz.func300 (by kernel_rfl) (by kernel_rfl) (by kernel_rfl) (e := Extern.MathFloatBits.float64frombits) (by kernel_rfl)]
        rfl
      · split at h
        · rename_i hf
          have hf := Nat.eq_of_beq_eq_true hf
          subst hf
          cases h
          intro l v h μ ρ l' hl w
          obtain ⟨m, rfl, rfl⟩ := fromB_ok h hl
          refine ⟨.float .f32 m, ?_, .float⟩
          rw [run_callFunc_extern Tryz.func291 (by kernel_rfl) (by kernel_rfl) (by kernel_rfl) (e := Extern.MathFloatBits.float32frombits) (by kernel_rfl)]
          rfl
        · split at h
          · rename_i hf
            have hf := Nat.eq_of_beq_eq_true hf
            subst hf
            cases h
            intro l v h μ ρ l' hl w
            obtain ⟨x, rfl, hr⟩ := truncA_ok (P := Tryz.prog) h hl w
            refine ⟨.float .f64 x, ?_, .float⟩
            rw [run_callFunc_extern Tryz.func297 (by kernel_rfl) (by kernel_rfl) (by kernel_rfl) (e := Extern.MathFloor.toIntegral "math.archTrunc" .zero) (by kernel_rfl), hr]
            rfl
          · cases h
theorem mixed : Tryz.prog.follows .mixedOrders = true := by kernel_rfl
theorem noNames : NoNG Tryz.prog := noNG_ok (by kernel_rfl)
set_option maxRecDepth 100000 in
theorem awake_run : lawZ Tryz.prog (extD vext) 100000 10 [] = true := by decide +kernel
noncomputable def vars (n : Nat) : List AV := Nat.rec (motive := fun _ => Nat → List AV) (fun _ => []) (fun _ ih i => .int .i64 (.var i) :: ih (Nat.succ i)) n 0
noncomputable def rho3 (a b c : Int) : Nat → Int := fun i => match i with
  | 0 => a
  | 1 => b
  | _ => c
theorem vars3 (a b c : Int) : VRs (fun _ => none) (rho3 a b c) (vars 3) [.int .i64 a, .int .i64 b, .int .i64 c] :=
  .cons (.int rfl) (.cons (.int rfl) (.cons (.int rfl) .nil))
noncomputable def walkM (l : List MK) (f : FuncId) (args : List AV) : Bool := lawZ Tryz.prog (wD vext 10 [] l) 200000 f args
theorem walkM_calls {ρ : Nat → Int} {l : List MK} (hl : ∀ c ∈ l, c.OK ρ) {f : FuncId} (hf : f ≠ 0) {args : List AV} (h : walkM l f args = true) {args' : Array Value} (ha : VRs (fun _ => none) ρ args args'.toList) (w : World) :
    Calls Tryz.prog f args' w fun e w' => e = .returned (.bool true) ∧ Go.RowKit.Below w.heap.size w w' :=
  lawY_calls mixed noNames (wZ_ok mixed noNames vext_ok awake_run (fun c hc => by cases hc) hl) hf ((lawZ_eq _ _ _ _ _).symm.trans h) ha w
theorem all_nil {ρ : Nat → Int} : ∀ c ∈ ([] : List MK), c.OK ρ := fun c hc => by cases hc
theorem all_cons {ρ : Nat → Int} {c : MK} {l : List MK} (h : c.OK ρ) (hs : ∀ c ∈ l, c.OK ρ) : ∀ x ∈ c :: l, x.OK ρ := fun x hx => by
  rcases List.mem_cons.1 hx with rfl | hx
  · exact h
  · exact hs x hx
end Go.Proofs.YtmgejgbomglegaaGreatDoor
