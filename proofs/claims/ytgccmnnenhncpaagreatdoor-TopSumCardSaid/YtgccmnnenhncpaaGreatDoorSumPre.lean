/-
  Known calls over this program: laws that are run with them.
-/
import Derived.Test.YtgccmnnenhncpaaGreatDoorRunBase
import Derived.Test.YtgccmnnenhncpaaGreatDoorVmG
namespace Go.Proofs.YtgccmnnenhncpaaGreatDoor
open Go Vx
def SumsOK (ρ : Env) (l : List Sum) : Prop := ∀ s ∈ l, SumOK Tryz.prog ρ s ∧ wfB s = true
theorem sums_nil {ρ : Env} : SumsOK ρ [] := fun _ h => by cases h
theorem sums_cons {ρ : Env} {s : Sum} {l : List Sum} (h : SumOK Tryz.prog ρ s ∧ wfB s = true) (hs : SumsOK ρ l) : SumsOK ρ (s :: l) := fun x hx => by
  rcases List.mem_cons.1 hx with rfl | hx
  · exact h
  · exact hs x hx
/-- A call that is run with others known. -/
noncomputable def runQ (l : List Sum) (s : Sum) : Bool := sumB Tryz.prog (sD (extD vext) l) 2000000 s
theorem runQ_ok {ρ : Env} {l : List Sum} (hl : SumsOK ρ l) {s : Sum} (h : runQ l s = true) : SumOK Tryz.prog ρ s ∧ wfB s = true := sumB_ok mixed noNames (sD_ok (extD_ok ρ vext_ok) hl) h
noncomputable def runS (aw : FuncId) (ss : List Sum) (iv : List IV) (l : List MK) (f : FuncId) (args : List AV) : Bool := lawZ Tryz.prog (sD (wD vext aw iv l) ss) 2000000 f args
theorem runS_calls {aw : FuncId} {n : Nat} (haw : lawZ Tryz.prog (extD vext) n aw [] = true) {ρ : Env} {ss : List Sum} (hs : SumsOK ρ ss) {iv : List IV} (hi : ∀ c ∈ iv, c.OK ρ) {l : List MK} (hl : ∀ c ∈ l, c.OK ρ) {f : FuncId} (hf : f ≠ 0) {args : List AV} (h : runS aw ss iv l f args = true) {args' : Array Value} (ha : VRs (fun _ => none) ρ args args'.toList) (w : World) (h0 : ρ.cnt = 0 := by rfl) :
    Calls Tryz.prog f args' w fun e w' => e = .returned (.bool true) ∧ Go.RowKit.Below w.heap.size w w' :=
  lawY_calls mixed noNames (sD_ok (wZ_ok mixed noNames vext_ok haw hi hl) hs) hf ((lawZ_eq _ _ _ _ _).symm.trans h) ha w h0
noncomputable def ckS (aw : FuncId) (ss : List Sum) (k : List CK) (l : List MK) (f : FuncId) (args : List AV) : Bool := lawZ Tryz.prog (sD (kD vext aw [] k l) ss) 2000000 f args
theorem ckS_calls {aw : FuncId} {n : Nat} (haw : lawZ Tryz.prog (extD vext) n aw [] = true) {ρ : Env} {ss : List Sum} (hs : SumsOK ρ ss) {k : List CK} (hk : ∀ c ∈ k, c.OK ρ) {l : List MK} (hl : ∀ c ∈ l, c.OK ρ) {f : FuncId} (hf : f ≠ 0) {args : List AV} (h : ckS aw ss k l f args = true) {args' : Array Value} (ha : VRs (fun _ => none) ρ args args'.toList) (w : World) (hi : InpOK ⟨fun b => b < w.heap.size, fun _ => False⟩ ρ w) :
    Calls Tryz.prog f args' w fun e w' => e = .returned (.bool true) ∧ Go.RowKit.Below w.heap.size w w' :=
  lawY_callsI mixed noNames (sD_ok (kZ_ok mixed noNames vext_ok haw ivs_nil hk hl) hs) hf ((lawZ_eq _ _ _ _ _).symm.trans h) ha w hi
end Go.Proofs.YtgccmnnenhncpaaGreatDoor
