/-
  The laws of chapter 18: three and four numbers, by the quick machine.
-/
import Derived.Test.YtebgepekllelaaaLawBase
import Derived.Test.YtebgepekllelaaaVx32
namespace Go.Proofs.Ytebgepekllelaaa
open Go Vx
noncomputable def lawM (l : List MK) (cls : List (List MK)) (f : FuncId) (args : List AV) : Bool := lawX Try.prog (lawD 13 l cls) 100000 f args
theorem lawM_calls {ρ : Nat → Int} {l : List MK} {cls : List (List MK)} (hl : ∀ c ∈ l, c.OK ρ) (hc : InCls ρ cls) {f : FuncId} (hf : f ≠ 0) {args : List AV} (h : lawM l cls f args = true) {args' : Array Value} (ha : VRs (fun _ => none) ρ args args'.toList) (w : World) :
    Calls Try.prog f args' w fun e w' => e = .returned (.bool true) ∧ Go.RowKit.Below w.heap.size w w' :=
  lawF_calls mixed noNames (lawD_ok mixed noNames awake_run hl hc) hf ((lawX_eq _ _ _ _ _).symm.trans h) ha w
/-- The class of all x from a to b - 1 of the i-th number's bits m. -/
noncomputable def span (i m a n : Nat) : List (List MK) := Nat.rec (motive := fun _ => List (List MK)) [] (fun j ih => [.and i m (Nat.add a j)] :: ih) n
theorem span_in {ρ : Nat → Int} {i m : Nat} : ∀ (n a v : Nat), a ≤ v → v < a + n → (MK.and i m v).OK ρ → InCls ρ (span i m a n)
  | 0, a, v, h1, h2, _ => by omega
  | n + 1, a, v, h1, h2, h => by
    by_cases e : v = a + n
    · refine ⟨[.and i m (a + n)], List.mem_cons_self, fun c hc => ?_⟩
      rw [List.mem_singleton] at hc
      subst hc; rw [← e]; exact h
    · obtain ⟨l, hl, hok⟩ := span_in n a v h1 (by omega) h
      exact ⟨l, List.mem_cons_of_mem _ hl, hok⟩
noncomputable def rho4 (a b c d : Int) : Nat → Int := fun i => match i with
  | 0 => a
  | 1 => b
  | 2 => c
  | _ => d
theorem vars4 (a b c d : Int) : VRs (fun _ => none) (rho4 a b c d) (vars 4) [.int .i64 a, .int .i64 b, .int .i64 c, .int .i64 d] :=
  .cons (.int rfl) (.cons (.int rfl) (.cons (.int rfl) (.cons (.int rfl) .nil)))
theorem all_nil {ρ : Nat → Int} : ∀ c ∈ ([] : List MK), c.OK ρ := fun c hc => by cases hc
theorem all_cons {ρ : Nat → Int} {c : MK} {l : List MK} (h : c.OK ρ) (hs : ∀ c ∈ l, c.OK ρ) : ∀ x ∈ c :: l, x.OK ρ := fun x hx => by
  rcases List.mem_cons.1 hx with rfl | hx
  · exact h
  · exact hs x hx
end Go.Proofs.Ytebgepekllelaaa
