/-
  RunForms: a law that is run with comparisons that are known.
-/
import Derived.Test.YtgccmnnenhncpaaGreatDoorRunBase
namespace Go.Proofs.YtgccmnnenhncpaaGreatDoor
open Go Vx

theorem ck_eql {ρ : Env} {i : Nat} {n : Int} {r : Bool} (h : decide (ρ i = n) = r) : (CK.mk false .eql i n r).OK ρ := fun P w => by
  subst h
  by_cases g : ρ i = n <;> simp [Op.intCmp, g]
theorem ck_geq {ρ : Env} {i : Nat} {n : Int} {r : Bool} (h : decide (n ≤ ρ i) = r) : (CK.mk false .geq i n r).OK ρ := fun P w => by
  subst h
  rfl
theorem ck_leq {ρ : Env} {i : Nat} {n : Int} {r : Bool} (h : decide (ρ i ≤ n) = r) : (CK.mk false .leq i n r).OK ρ := fun P w => by
  subst h
  rfl
end Go.Proofs.YtgccmnnenhncpaaGreatDoor
