/-
  The laws of chapter 26 and of the whole: what they share, ahead of the first answers: the functions without a body, the first answer ('awake'), the program's facts.
-/
import Derived.Test.YtgccmnnenhncpaaGreatDoorCls
import Derived.Test.YtgccmnnenhncpaaGreatDoorProg
import Derived.KernelRfl
namespace Go.Proofs.YtgccmnnenhncpaaGreatDoor
open Go Vx

noncomputable def fromB (k : FloatKind) (ik : IntKind) (l : List AV) : Option AV :=
  match l with
  | [v] => match v with
    | .int k' e => match e with
      | .lit n => match n with
        | .ofNat m => match kindB k' ik with
          | true => some (.float k m)
          | false => none
        | .negSucc _ => none
      | _ => none
    | _ => none
  | _ => none
theorem fromB_ok {k : FloatKind} {ik : IntKind} {l : List AV} {v : AV} (h : fromB k ik l = some v) {μ : Mu} {ρ : Env} {l' : List Value} (hl : VRs μ ρ l l') : ∃ m : Nat, l' = [.int ik (m : Int)] ∧ v = .float k m := by
  unfold fromB at h
  split at h
  · split at h
    · split at h
      · split at h
        · split at h
          · rename_i hk
            have hk := kindB_eq hk
            subst hk
            cases h
            cases hl with
            | cons h1 h2 =>
            cases h2
            cases h1 with
            | int he => exact ⟨_, by rw [← he]; rfl, rfl⟩
          · cases h
        · cases h
      · cases h
    · cases h
  · cases h
/-- What is cut: the one float that the laws cut, positive infinity. -/
noncomputable def truncA (l : List AV) : Option AV :=
  match l with
  | [v] => match v with
    | .float k x => match fkEq k .f64 with
      | true => match Nat.beq x 9218868437227405312 with
        | true => some (.float .f64 x)
        | false => none
      | false => none
    | _ => none
  | _ => none
theorem truncA_ok {P : Program} {l : List AV} {v : AV} (h : truncA l = some v) {μ : Mu} {ρ : Env} {l' : List Value} (hl : VRs μ ρ l l') (w : World) : ∃ x : Nat, v = .float .f64 x ∧ (Extern.MathFloor.toIntegral "math.archTrunc" .zero l'.toArray).run P w = .ok (.float .f64 x) w := by
  unfold truncA at h
  split at h
  · split at h
    · split at h
      · rename_i hk
        have hk := fkEq_ok hk
        subst hk
        split at h
        · rename_i hx
          have hx := Nat.eq_of_beq_eq_true hx
          subst hx
          cases h
          cases hl with
          | cons h1 h2 =>
          cases h2
          cases h1
          exact ⟨_, rfl, rfl⟩
        · cases h
      · cases h
    · cases h
  · cases h
noncomputable def vext (f : FuncId) : Option Ext :=
  match Nat.beq f 264 with
  | true => some .same
  | false => match Nat.beq f 265 with
    | true => some (.noZero 237 5)
    | false => match Nat.beq f 393 with
      | true => some (.fn (fromB .f64 .u64))
      | false => match Nat.beq f 384 with
        | true => some (.fn (fromB .f32 .u32))
        | false => match Nat.beq f 390 with
          | true => some (.fn truncA)
          | false => none
theorem vext_ok (f : FuncId) (x : Ext) (h : vext f = some x) : Ext.OK Tryz.prog f x := by
  unfold vext at h
  split at h
  · rename_i hf
    have hf := Nat.eq_of_beq_eq_true hf
    subst hf
    cases h
    intro v w
    rw [run_callFunc_extern Tryz.func264 (by kernel_rfl) (by kernel_rfl) (by kernel_rfl) (e := Extern.AbiNoEscape.same) (by kernel_rfl)]
    rfl
  · split at h
    · rename_i hf
      have hf := Nat.eq_of_beq_eq_true hf
      subst hf
      cases h
      exact ⟨Tryz.underlying237, Tryz.f265.params, fun args w => run_callFunc_extern Tryz.func265 (by kernel_rfl) (by kernel_rfl) (by kernel_rfl) (e := Extern.BytealgMakeNoZero.makeNoZero Tryz.f265.params #[237]) (by kernel_rfl) args w⟩
    · split at h
      · rename_i hf
        have hf := Nat.eq_of_beq_eq_true hf
        subst hf
        cases h
        intro l v h μ ρ l' hl w
        obtain ⟨m, rfl, rfl⟩ := fromB_ok h hl
        refine ⟨.float .f64 m, ?_, .float⟩
        rw [run_callFunc_extern Tryz.func393 (by kernel_rfl) (by kernel_rfl) (by kernel_rfl) (e := Extern.MathFloatBits.float64frombits) (by kernel_rfl)]
        rfl
      · split at h
        · rename_i hf
          have hf := Nat.eq_of_beq_eq_true hf
          subst hf
          cases h
          intro l v h μ ρ l' hl w
          obtain ⟨m, rfl, rfl⟩ := fromB_ok h hl
          refine ⟨.float .f32 m, ?_, .float⟩
          rw [run_callFunc_extern Tryz.func384 (by kernel_rfl) (by kernel_rfl) (by kernel_rfl) (e := Extern.MathFloatBits.float32frombits) (by kernel_rfl)]
          rfl
        · split at h
          · rename_i hf
            have hf := Nat.eq_of_beq_eq_true hf
            subst hf
            cases h
            intro l v h μ ρ l' hl w
            obtain ⟨x, rfl, hr⟩ := truncA_ok (P := Tryz.prog) h hl w
            refine ⟨.float .f64 x, ?_, .float⟩
            rw [run_callFunc_extern Tryz.func390 (by kernel_rfl) (by kernel_rfl) (by kernel_rfl) (e := Extern.MathFloor.toIntegral "math.archTrunc" .zero) (by kernel_rfl), hr]
            rfl
          · cases h
theorem mixed : Tryz.prog.follows .mixedOrders = true := by kernel_rfl
theorem noNames : NoNG Tryz.prog := noNG_ok (by kernel_rfl)
end Go.Proofs.YtgccmnnenhncpaaGreatDoor
