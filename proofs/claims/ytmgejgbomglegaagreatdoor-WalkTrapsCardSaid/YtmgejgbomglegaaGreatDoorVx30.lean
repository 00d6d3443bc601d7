/-
  The quick machine, by operations made ready ahead.
-/
import Derived.Test.YtmgejgbomglegaaGreatDoorVx27
import Derived.Test.YtmgejgbomglegaaGreatDoorVx29
namespace Vx
open Go Go.RowKit
section
variable (P : Program) (D : Dec) (rg : Rg)
noncomputable def rowC (all : Array Oper) (l : List Oper) (x : FX) (E : Tr AV) (k : List AItem) (H : Heap) : FR' :=
  FX.rec (motive := fun _ => FR') (fun fn df ro nt dfs cs => opsEnd P D rg all ⟨fn, df, ro, nt, dfs, cs⟩ k (crun P D (compL nt all.toList l) E H)) x
noncomputable def regC (ops : Array Oper) : ItT := fun x E k H => rowC P D rg ops ops.toList x E k H
noncomputable def drawC (id : Nat) (ops : Array Oper) : ItT := fun x E k H => slowF P D rg x E (.code (.region id ops true) :: k) H
noncomputable def cRegionC : Nat → Array Oper → Bool → ItT := fun id ops draw => Bool.rec (motive := fun _ => ItT) (regC P D rg ops) (drawC P D rg id ops) draw
noncomputable def codeC (c : Code) : ItT :=
  Code.rec (motive := fun _ => ItT) cSkip (cRegionC P D rg) cSeq cCond cBlock cLoop (cRange P D rg) (cExit P D rg) cScope cLabel cGoto (cRet P D rg) cRefuse c
noncomputable def iInOpsC : Array Oper → List Oper → ItT := fun all rest x E k H => rowC P D rg all rest x E k H
noncomputable def itemC (it : AItem) : ItT :=
  AItem.rec (motive := fun _ => ItT) (codeC P D rg) iInBlock iInLoop iInScope (iInOpsC P D rg) (iInRF P D rg) (iEndRF P D rg) (iBegin P D rg) it
noncomputable def todoC (todo : List AItem) : FX → Tr AV → Heap → FR' :=
  List.rec (motive := fun _ => FX → Tr AV → Heap → FR') (fun x E H => slowF P D rg x E [] H) (fun it k _ x E H => itemC P D rg it x E k H) todo
noncomputable def stepC (s : FS) : FR' :=
  FS.rec (motive := fun _ => FR') (fun x E todo H => todoC P D rg todo x E H) (fun m => ofSR (astep P D rg m)) s
theorem rowC_eq (all : Array Oper) (l : List Oper) (x : FX) (E : Tr AV) (k : List AItem) (H : Heap) : rowC P D rg all l x E k H = opsEnd P D rg all x k (opsF P D x.nt all.toList l E H) := by
  cases x
  show opsEnd P D rg all _ k (crun P D (compL _ all.toList l) E H) = _
  rw [crun_eq]
theorem codeC_eq (c : Code) : codeC P D rg c = codeF P D rg c := by
  cases c with
  | region id ops draw =>
    cases draw with
    | true => rfl
    | false => funext x E k H; exact rowC_eq P D rg ops ops.toList x E k H
  | _ => rfl
theorem stepC_eq (s : FS) : stepC P D rg s = stepFS P D rg s := by
  cases s with
  | gen m => rfl
  | fast x E todo H =>
    cases todo with
    | nil => rfl
    | cons it k =>
      cases it with
      | code c => show codeC P D rg c x E k H = codeF P D rg c x E k H; rw [codeC_eq]
      | inOps all rest => exact rowC_eq P D rg all rest x E k H
      | _ => rfl
end
noncomputable def loopC (P : Program) (D : Dec) (ih : FS → Option (FuncId × Fin' × Heap)) (s : FS) : Option (FuncId × Fin' × Heap) :=
  FR'.rec (motive := fun _ => Option (FuncId × Fin' × Heap)) (fun s' => ih s') (fun r => r) (stepC P D (drawA P D (fun m => ih (norm m))) s)
noncomputable def runCS (P : Program) (D : Dec) (n : Nat) : FS → Option (FuncId × Fin' × Heap) :=
  Nat.rec (motive := fun _ => FS → Option (FuncId × Fin' × Heap)) (fun _ => none) (fun _ ih s => loopC P D ih s) n
theorem runCS_eq (P : Program) (D : Dec) : ∀ n, runCS P D n = runFS P D n
  | 0 => rfl
  | n + 1 => by
    funext s
    show loopC P D (runCS P D n) s = loopK P D (runFS P D n) s
    rw [runCS_eq P D n]
    unfold loopC loopK
    rw [stepC_eq]
noncomputable def lawC (P : Program) (D : Dec) (n : Nat) (f : FuncId) (args : List AV) : Bool :=
  match enterA P f args false with
  | some g => isT f (runCS P D n (norm ⟨g, [], emptyH⟩))
  | none => false
theorem lawC_eq (P : Program) (D : Dec) (n : Nat) (f : FuncId) (args : List AV) : lawC P D n f args = lawF P D n f args := by
  unfold lawC lawF runF
  rw [runCS_eq]
  cases enterA P f args false <;> rfl
end Vx
