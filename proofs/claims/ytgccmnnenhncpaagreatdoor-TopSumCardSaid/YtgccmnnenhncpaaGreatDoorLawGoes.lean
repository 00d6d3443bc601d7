/-
  No function of the program starts a goroutine: so no call does.
-/
import Derived.Test.YtgccmnnenhncpaaGreatDoorProg
import Derived.KernelRfl
import GoSem.ClaimGoes
namespace Go.Proofs.YtgccmnnenhncpaaGreatDoor
open Go
theorem noGo : (Tryz.prog.funcs.toList.all fun fn => !fn.goes) = true := by kernel_rfl
theorem goes_none {P : Program} (h : (P.funcs.toList.all fun fn => !fn.goes) = true) (c : OpenClaim) : c.goesBy P = false := by
  have h1 : ∀ (g : FuncId) (fn : Func), P.funcs[g]? = some fn → fn.goes = false := fun g fn hg => by
    have := List.all_eq_true.1 h fn (by simpa using Array.mem_of_getElem? hg)
    simpa using this
  have h2 : P.funcs.any Func.goes = false := by
    rw [← Bool.not_eq_true, Array.any_eq_true]
    rintro ⟨i, hi, hc⟩
    have := h1 i P.funcs[i] (Array.getElem?_eq_getElem hi)
    rw [this] at hc
    cases hc
  have h3 : ∀ f, P.goes f = false := fun f => by
    unfold Program.goes
    rw [h2, Bool.and_false, Bool.or_false, List.any_eq_false]
    intro g _
    cases hg : P.funcs[g]? with
    | none => simp
    | some fn => simp [h1 g fn hg]
  unfold OpenClaim.goesBy Program.goesAt Program.goesFrom
  have h4 : (P.funcNamed c.func).any P.goes = false := by
    cases P.funcNamed c.func with
    | none => rfl
    | some f => simp [h3 f]
  rw [h4, Bool.false_or]
  split
  · rfl
  · rw [List.any_eq_false]
    intro f _
    simp [h3 f]
theorem goes_said (c : OpenClaim) : false = c.goesBy Tryz.prog := (goes_none noGo c).symm
end Go.Proofs.YtgccmnnenhncpaaGreatDoor
