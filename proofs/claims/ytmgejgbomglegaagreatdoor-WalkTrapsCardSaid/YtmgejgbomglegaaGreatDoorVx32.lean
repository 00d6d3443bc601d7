/-
  The quick machine, put together anew.
-/
import Derived.Test.YtmgejgbomglegaaGreatDoorVx31
namespace Vx
open Go Go.RowKit
section
variable (P : Program) (D : Dec) (rg : Rg)
noncomputable def rowX (all : Array Oper) (l : List Oper) (x : FX) (E : Tr AV) (k : List AItem) (H : Heap) : FR' :=
  FX.rec (motive := fun _ => FR') (fun fn df ro nt dfs cs => opsEndQ P D rg all ⟨fn, df, ro, nt, dfs, cs⟩ k (crun P D (compL nt all.toList l) E H)) x
noncomputable def regX (ops : Array Oper) : ItT := fun x E k H => rowX P D rg ops ops.toList x E k H
noncomputable def cRegionX : Nat → Array Oper → Bool → ItT := fun id ops draw => Bool.rec (motive := fun _ => ItT) (regX P D rg ops) (drawC P D rg id ops) draw
noncomputable def condV (a b : Code) (x : FX) (E : Tr AV) (k : List AItem) (H : Heap) (v : AV) : FR' :=
  V1.rec (motive := fun _ => FR') (fun _ _ => .fin none) (cond2 a b x E k H) (fun _ _ => .fin none) (.fin none) (.fin none) (view1 v)
noncomputable def cCondX : Operand → Code → Code → ItT → ItT → ItT := fun c a b _ _ x E k H => Option.rec (motive := fun _ => FR') (.fin none) (condV a b x E k H) (ceGet (mkCE c) E)
noncomputable def cRetX : ItT := fun x E k H => retQ P D rg x E k H
noncomputable def codeX (c : Code) : ItT :=
  Code.rec (motive := fun _ => ItT) cSkip (cRegionX P D rg) cSeq cCondX cBlock cLoop (cRange P D rg) (cExit P D rg) cScope cLabel cGoto (cRetX P D rg) cRefuse c
noncomputable def iInOpsX : Array Oper → List Oper → ItT := fun all rest x E k H => rowX P D rg all rest x E k H
noncomputable def itemX (it : AItem) : ItT :=
  AItem.rec (motive := fun _ => ItT) (codeX P D rg) iInBlock iInLoop iInScope (iInOpsX P D rg) (iInRF P D rg) (iEndRF P D rg) (iBegin P D rg) it
noncomputable def todoX (todo : List AItem) : FX → Tr AV → Heap → FR' :=
  List.rec (motive := fun _ => FX → Tr AV → Heap → FR') (fun x E H => slowF P D rg x E [] H) (fun it k _ x E H => itemX P D rg it x E k H) todo
noncomputable def stepX (s : FS) : FR' :=
  FS.rec (motive := fun _ => FR') (fun x E todo H => todoX P D rg todo x E H) (outQ P D rg) s
theorem rowX_eq (all : Array Oper) (l : List Oper) (x : FX) (E : Tr AV) (k : List AItem) (H : Heap) : rowX P D rg all l x E k H = opsEnd P D rg all x k (opsF P D x.nt all.toList l E H) := by
  cases x
  show opsEndQ P D rg all _ k (crun P D (compL _ all.toList l) E H) = _
  rw [crun_eq, opsEndQ_eq]
theorem condV_eq (a b : Code) (x : FX) (E : Tr AV) (k : List AItem) (H : Heap) (v : AV) : condV a b x E k H v = cond1 a b x E k H v := by
  cases v <;> rfl
theorem codeX_eq (c : Code) : codeX P D rg c = codeF P D rg c := by
  cases c with
  | region id ops draw =>
    cases draw with
    | true => rfl
    | false => funext x E k H; exact rowX_eq P D rg ops ops.toList x E k H
  | cond c a b =>
    funext x E k H
    show Option.rec (motive := fun _ => FR') (.fin none) (condV a b x E k H) (ceGet (mkCE c) E) = Option.rec (motive := fun _ => FR') (.fin none) (cond1 a b x E k H) (ev E c)
    rw [mkCE_eq]
    cases ev E c with
    | none => rfl
    | some v => exact condV_eq a b x E k H v
  | ret => funext x E k H; exact retQ_eq P D rg x E k H
  | _ => rfl
theorem stepX_eq (s : FS) : stepX P D rg s = stepFS P D rg s := by
  cases s with
  | gen m => exact outQ_eq P D rg m
  | fast x E todo H =>
    cases todo with
    | nil => rfl
    | cons it k =>
      cases it with
      | code c => show codeX P D rg c x E k H = codeF P D rg c x E k H; rw [codeX_eq]
      | inOps all rest => exact rowX_eq P D rg all rest x E k H
      | _ => rfl
end
noncomputable def loopX (P : Program) (D : Dec) (ih : FS → Option (FuncId × Fin' × Heap)) (s : FS) : Option (FuncId × Fin' × Heap) :=
  FR'.rec (motive := fun _ => Option (FuncId × Fin' × Heap)) (fun s' => ih s') (fun r => r) (stepX P D (drawA P D (fun m => ih (norm m))) s)
noncomputable def runX (P : Program) (D : Dec) (n : Nat) : FS → Option (FuncId × Fin' × Heap) :=
  Nat.rec (motive := fun _ => FS → Option (FuncId × Fin' × Heap)) (fun _ => none) (fun _ ih s => loopX P D ih s) n
theorem runX_eq (P : Program) (D : Dec) : ∀ n, runX P D n = runFS P D n
  | 0 => rfl
  | n + 1 => by
    funext s
    show loopX P D (runX P D n) s = loopK P D (runFS P D n) s
    rw [runX_eq P D n]
    unfold loopX loopK
    rw [stepX_eq]
noncomputable def lawX (P : Program) (D : Dec) (n : Nat) (f : FuncId) (args : List AV) : Bool :=
  match enterA P f args false with
  | some g => isT f (runX P D n (norm ⟨g, [], emptyH⟩))
  | none => false
theorem lawX_eq (P : Program) (D : Dec) (n : Nat) (f : FuncId) (args : List AV) : lawX P D n f args = lawF P D n f args := by
  unfold lawX lawF runF
  rw [runX_eq]
  cases enterA P f args false <;> rfl
end Vx
