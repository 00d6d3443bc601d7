/-
  Operations made ready ahead: each becomes a function whose getters and setters are found once.
-/
import Derived.Test.YtmgejgbomglegaaGreatDoorVx17
namespace Vx
open Go

/-! ### Getters, setters -/
structure Gt : Type where
  g : Tr AV → Option AV
structure Pt : Type where
  p : Tr AV → AV → Tr AV
noncomputable def gtLo (s2 : T2 AV → T1 AV) (s1 : T1 AV → Option AV) (t : Tr AV) : Option AV := s1 (s2 t.lo)
noncomputable def gtFar (k : Nat) (t : Tr AV) : Option AV := t.get k
noncomputable def mkGt (k : Nat) : Gt :=
  Bool.rec (motive := fun _ => Gt) ⟨gtFar k⟩ (Dg.rec (motive := fun _ => Gt) (fun s1 _ => Dg.rec (motive := fun _ => Gt) (fun s2 _ => ⟨gtLo s2 s1⟩) (dg (T1 AV) (Nat.div k 16))) (dg (Option AV) k)) (Nat.ble k 255)
noncomputable def ptLo (s2 : T2 AV → T1 AV) (u2 : T2 AV → T1 AV → T2 AV) (u1 : T1 AV → Option AV → T1 AV) (t : Tr AV) (v : AV) : Tr AV :=
  Tr.rec (motive := fun _ => Tr AV) (fun lo hi far => ⟨u2 lo (u1 (s2 lo) (some v)), hi, far⟩) t
noncomputable def ptFar (k : Nat) (t : Tr AV) (v : AV) : Tr AV := t.put k (some v)
noncomputable def mkPt (k : Nat) : Pt :=
  Bool.rec (motive := fun _ => Pt) ⟨ptFar k⟩ (Dg.rec (motive := fun _ => Pt) (fun _ u1 => Dg.rec (motive := fun _ => Pt) (fun s2 u2 => ⟨ptLo s2 u2 u1⟩) (dg (T1 AV) (Nat.div k 16))) (dg (Option AV) k)) (Nat.ble k 255)
theorem mkGt_eq (k : Nat) (t : Tr AV) : (mkGt k).g t = t.get k := by
  cases h : Nat.ble k 255 with
  | false => unfold mkGt; rw [h]; rfl
  | true => unfold mkGt Tr.get; rw [h]; rfl
theorem mkPt_eq (k : Nat) (t : Tr AV) (v : AV) : (mkPt k).p t v = t.put k (some v) := by
  cases h : Nat.ble k 255 with
  | false => unfold mkPt; rw [h]; rfl
  | true => unfold mkPt Tr.put; rw [h]; rfl

/-! ### Operands, destinations -/
inductive CE : Type where
  | tmp (g : Tr AV → Option AV)
  | val (v : AV)
  | none
noncomputable def ceOf (v : Option AV) : CE := Option.rec (motive := fun _ => CE) .none (fun v => .val v) v
noncomputable def mkCE (x : Operand) : CE :=
  Operand.rec (motive := fun _ => CE) (fun t => Gt.rec (motive := fun _ => CE) (fun g => .tmp g) (mkGt t)) (fun v => ceOf (ofV v)) (fun _ => .none) (fun f => .val (.fn f [] [])) x
noncomputable def ceGet (c : CE) (E : Tr AV) : Option AV := CE.rec (motive := fun _ => Option AV) (fun g => g E) (fun v => some v) .none c
theorem mkCE_eq (x : Operand) (E : Tr AV) : ceGet (mkCE x) E = ev E x := by
  cases x with
  | tmp t => show (mkGt t).g E = E.get t; exact mkGt_eq t E
  | const v =>
    show ceGet (ceOf (ofV v)) E = ofV v
    cases ofV v <;> rfl
  | global g => rfl
  | func f => rfl
inductive CW : Type where
  | no
  | put (p : Tr AV → AV → Tr AV)
  | bad
noncomputable def mkCW (nt : Nat) (dst : Option Tmp) : CW :=
  Option.rec (motive := fun _ => CW) .no (fun d => Bool.rec (motive := fun _ => CW) .bad (Pt.rec (motive := fun _ => CW) (fun p => .put p) (mkPt d)) (Nat.ble (Nat.succ d) nt)) dst
abbrev KT := Tr AV → Heap → OpsR
noncomputable def cwVal (w : CW) (stop ih : KT) (E : Tr AV) (H : Heap) (v : AV) (H' : Heap) : OpsR :=
  CW.rec (motive := fun _ => OpsR) (ih E H') (fun p => ih (p E v) H') (stop E H) w
noncomputable def stopK (l : List Oper) : KT := fun E H => .stop l E H
theorem cwVal_eq (nt : Nat) (o : Oper) (rest : List Oper) (ih : KT) (E : Tr AV) (H : Heap) (v : AV) (H' : Heap) : cwVal (mkCW nt o.dst) (stopK (o :: rest)) ih E H v H' = opsVal nt o rest ih E H v H' := by
  unfold opsVal mkCW
  cases o.dst with
  | none => rfl
  | some d =>
    dsimp only
    cases Nat.ble (Nat.succ d) nt with
    | false => rfl
    | true => show ih ((mkPt d).p E v) H' = ih (E.put d (some v)) H'; rw [mkPt_eq]
end Vx
