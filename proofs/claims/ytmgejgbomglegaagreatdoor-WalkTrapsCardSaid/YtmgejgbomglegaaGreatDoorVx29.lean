/-
  Rows of operations made ready ahead: the same as rows of operations.
-/
import Derived.Test.YtmgejgbomglegaaGreatDoorVx28
namespace Vx
open Go

abbrev InsT := Program → Dec → KT → KT → Tr AV → Heap → OpsR
structure Ins : Type where
  f : InsT
noncomputable def iGen (w : CW) (op : Op) : InsT := fun P D stop ih E H =>
  OpR.rec (motive := fun _ => OpsR) (cwVal w stop ih E H) (fun _ _ => stop E H) (fun _ _ => stop E H) (fun _ => stop E H) (stop E H) (fun _ => stop E H) (stop E H) (opF op P D E H)
noncomputable def oVal (w : CW) (stop ih : KT) (E : Tr AV) (H : Heap) (v : Option AV) : OpsR :=
  Option.rec (motive := fun _ => OpsR) (stop E H) (fun v => cwVal w stop ih E H v H) v
noncomputable def iMoveT (w : CW) (g : Tr AV → Option AV) : InsT := fun _ _ stop ih E H => oVal w stop ih E H (g E)
noncomputable def iMoveC (w : CW) (v : AV) : InsT := fun _ _ stop ih E H => cwVal w stop ih E H v H
noncomputable def iMove (w : CW) (op : Op) (c : CE) : Ins := CE.rec (motive := fun _ => Ins) (fun g => ⟨iMoveT w g⟩) (fun v => ⟨iMoveC w v⟩) ⟨iGen w op⟩ c
noncomputable def pick2 (w : CW) (a b : CE) (stop ih : KT) (E : Tr AV) (H : Heap) (t : Bool) : OpsR :=
  Bool.rec (motive := fun _ => OpsR) (oVal w stop ih E H (ceGet b E)) (oVal w stop ih E H (ceGet a E)) t
noncomputable def pick1 (w : CW) (a b : CE) (stop ih : KT) (E : Tr AV) (H : Heap) (v : AV) : OpsR :=
  V1.rec (motive := fun _ => OpsR) (fun _ _ => stop E H) (pick2 w a b stop ih E H) (fun _ _ => stop E H) (stop E H) (stop E H) (view1 v)
noncomputable def iPick (w : CW) (c a b : CE) : InsT := fun _ _ stop ih E H => Option.rec (motive := fun _ => OpsR) (stop E H) (pick1 w a b stop ih E H) (ceGet c E)
noncomputable def iBin2 (P : Program) (D : Dec) (w : CW) (op : BinOp) (t : TypeId) (y : Operand) (stop ih : KT) (E : Tr AV) (H : Heap) (a : AV) (b : Option AV) : OpsR :=
  Option.rec (motive := fun _ => OpsR) (stop E H) (fun b => oVal w stop ih E H (binF1 P D op t y a b)) b
noncomputable def iBin (w : CW) (op : BinOp) (t : TypeId) (y : Operand) (ca cb : CE) : InsT := fun P D stop ih E H =>
  Option.rec (motive := fun _ => OpsR) (stop E H) (fun a => iBin2 P D w op t y stop ih E H a (ceGet cb E)) (ceGet ca E)
noncomputable def mkIns2 (w : CW) (op : Op) : Ins :=
  Op.rec (motive := fun _ => Ins) (fun x => iMove w op (mkCE x)) (fun x => iMove w op (mkCE x)) (fun c a b => ⟨iPick w (mkCE c) (mkCE a) (mkCE b)⟩) (fun _ => ⟨iGen w op⟩) (fun _ _ => ⟨iGen w op⟩) (fun _ _ => ⟨iGen w op⟩) (fun _ _ _ => ⟨iGen w op⟩) (fun _ _ _ _ => ⟨iGen w op⟩)
    (fun _ _ => ⟨iGen w op⟩) (fun _ _ _ => ⟨iGen w op⟩) (fun _ => ⟨iGen w op⟩) (fun _ => ⟨iGen w op⟩) (fun _ => ⟨iGen w op⟩) (fun bo t x y _ => ⟨iBin w bo t y (mkCE x) (mkCE y)⟩) (fun _ _ _ => ⟨iGen w op⟩) (fun _ _ _ => ⟨iGen w op⟩) (fun _ _ => ⟨iGen w op⟩) (fun _ _ => ⟨iGen w op⟩) (fun _ _ _ => ⟨iGen w op⟩)
    (fun _ _ => ⟨iGen w op⟩) (fun _ _ => ⟨iGen w op⟩) (fun _ _ _ => ⟨iGen w op⟩) (fun _ _ _ _ _ => ⟨iGen w op⟩) (fun _ _ _ => ⟨iGen w op⟩) (fun _ _ _ => ⟨iGen w op⟩) (fun _ _ _ => ⟨iGen w op⟩) (fun _ _ _ => ⟨iGen w op⟩) (fun _ _ _ _ => ⟨iGen w op⟩) (fun _ _ _ _ => ⟨iGen w op⟩) (fun _ _ _ => ⟨iGen w op⟩)
    (fun _ _ _ _ => ⟨iGen w op⟩) (fun _ _ => ⟨iGen w op⟩) (fun _ _ => ⟨iGen w op⟩) (fun _ => ⟨iGen w op⟩) (fun _ _ _ _ => ⟨iGen w op⟩) (fun _ _ => ⟨iGen w op⟩) (fun _ => ⟨iGen w op⟩) (fun _ => ⟨iGen w op⟩) (fun _ => ⟨iGen w op⟩) (fun _ => ⟨iGen w op⟩) (fun _ _ => ⟨iGen w op⟩) (fun _ _ _ => ⟨iGen w op⟩) (fun _ _ => ⟨iGen w op⟩) op
noncomputable def mkIns (nt : Nat) (o : Oper) : Ins := mkIns2 (mkCW nt o.dst) o.op
section
variable {P : Program} {D : Dec} {nt : Nat} {o : Oper} {rest : List Oper} {ih : KT} {E : Tr AV} {H : Heap}
theorem iGen_eq : iGen (mkCW nt o.dst) o.op P D (stopK (o :: rest)) ih E H = opsGo P D nt o rest ih E H := by
  unfold iGen opsGo
  cases opF o.op P D E H with
  | val v H' => exact cwVal_eq nt o rest ih E H v H'
  | _ => rfl
theorem go_val1 {op : Op} (hop : o.op = op) {v : Option AV} (h : opA P D E H op = val1 v H) : oVal (mkCW nt o.dst) (stopK (o :: rest)) ih E H v = opsGo P D nt o rest ih E H := by
  unfold opsGo
  rw [opF_eq, hop, h]
  cases v with
  | none => rfl
  | some u => exact cwVal_eq nt o rest ih E H u H
theorem mkIns_ok : (mkIns nt o).f P D (stopK (o :: rest)) ih E H = opsGo P D nt o rest ih E H := by
  unfold mkIns
  have gen := iGen_eq (P := P) (D := D) (nt := nt) (o := o) (rest := rest) (ih := ih) (E := E) (H := H)
  generalize hop : o.op = op at gen
  have move : ∀ x, opA P D E H op = val1 (ev E x) H → (iMove (mkCW nt o.dst) op (mkCE x)).f P D (stopK (o :: rest)) ih E H = opsGo P D nt o rest ih E H := fun x hx => by
    have he := mkCE_eq x E
    cases hc : mkCE x with
    | tmp g =>
      rw [hc] at he
      have he : g E = ev E x := he
      show oVal (mkCW nt o.dst) (stopK (o :: rest)) ih E H (g E) = _
      exact go_val1 hop (by rw [hx, he])
    | val v =>
      rw [hc] at he
      have he : some v = ev E x := he
      show cwVal (mkCW nt o.dst) (stopK (o :: rest)) ih E H v H = _
      exact go_val1 (v := some v) hop (by rw [hx, ← he])
    | none => exact gen
  cases op with
  | move x => exact move x rfl
  | assign x => exact move x rfl
  | pick c a b =>
    show Option.rec (motive := fun _ => OpsR) (stopK (o :: rest) E H) (pick1 (mkCW nt o.dst) (mkCE a) (mkCE b) (stopK (o :: rest)) ih E H) (ceGet (mkCE c) E) = _
    rw [mkCE_eq]
    have bad : opA P D E H (.pick c a b) = .bad → stopK (o :: rest) E H = opsGo P D nt o rest ih E H := fun hb => by
      unfold opsGo; rw [opF_eq, hop, hb]; rfl
    cases hc : ev E c with
    | none => exact bad (by simp [opA, hc])
    | some v =>
      show pick1 (mkCW nt o.dst) (mkCE a) (mkCE b) (stopK (o :: rest)) ih E H v = _
      unfold pick1
      cases v with
      | bool t =>
        show pick2 (mkCW nt o.dst) (mkCE a) (mkCE b) (stopK (o :: rest)) ih E H t = _
        unfold pick2
        cases t with
        | true => show oVal _ _ ih E H (ceGet (mkCE a) E) = _; rw [mkCE_eq]; exact go_val1 hop (by simp [opA, hc])
        | false => show oVal _ _ ih E H (ceGet (mkCE b) E) = _; rw [mkCE_eq]; exact go_val1 hop (by simp [opA, hc])
      | _ => exact bad (by simp [opA, hc])
  | binOp bo t x y yt =>
    show Option.rec (motive := fun _ => OpsR) (stopK (o :: rest) E H) (fun a => iBin2 P D (mkCW nt o.dst) bo t y (stopK (o :: rest)) ih E H a (ceGet (mkCE y) E)) (ceGet (mkCE x) E) = _
    rw [mkCE_eq, mkCE_eq]
    have bad : opA P D E H (.binOp bo t x y yt) = .bad → stopK (o :: rest) E H = opsGo P D nt o rest ih E H := fun hb => by
      unfold opsGo; rw [opF_eq, hop, hb]; rfl
    cases hx : ev E x with
    | none => exact bad (by simp [opA, hx])
    | some a =>
      show iBin2 P D (mkCW nt o.dst) bo t y (stopK (o :: rest)) ih E H a (ev E y) = _
      unfold iBin2
      cases hy : ev E y with
      | none => exact bad (by simp [opA, hx, hy])
      | some b =>
        show oVal (mkCW nt o.dst) (stopK (o :: rest)) ih E H (binF1 P D bo t y a b) = _
        rw [binF1_eq]
        exact go_val1 hop (by simp [opA, hx, hy])
  | _ => exact gen
end

/-! ### Guards; rows -/
inductive CG : Type where
  | always
  | on (g : Tr AV → Option AV) (want : Bool)
  | bad
noncomputable def mkCG (all : List Oper) (g : Option (Nat × Bool)) : CG :=
  Option.rec (motive := fun _ => CG) .always (fun p => Prod.rec (motive := fun _ => CG) (fun j want => Option.rec (motive := fun _ => CG) .bad (fun oj => Option.rec (motive := fun _ => CG) .bad (fun d => Gt.rec (motive := fun _ => CG) (fun g => .on g want) (mkGt d)) oj.dst) (nth all j)) p) g
noncomputable def cOn2 (P : Program) (D : Dec) (l : List Oper) (w : CW) (ins : InsT) (ih : KT) (E : Tr AV) (H : Heap) (b : Bool) : OpsR :=
  Bool.rec (motive := fun _ => OpsR) (cwVal w (stopK l) ih E H (.tup []) H) (ins P D (stopK l) ih E H) b
noncomputable def cOn (P : Program) (D : Dec) (l : List Oper) (w : CW) (ins : InsT) (ih : KT) (E : Tr AV) (H : Heap) (g : Tr AV → Option AV) (want : Bool) : OpsR :=
  Option.rec (motive := fun _ => OpsR) (.stop l E H) (cOn2 P D l w ins ih E H) (guard3 want (g E))
noncomputable def cStep (P : Program) (D : Dec) (l : List Oper) (cg : CG) (w : CW) (ins : InsT) (ih : KT) (E : Tr AV) (H : Heap) : OpsR :=
  CG.rec (motive := fun _ => OpsR) (ins P D (stopK l) ih E H) (cOn P D l w ins ih E H) (.stop l E H) cg
inductive CL : Type where
  | nil
  | cons (l : List Oper) (cg : CG) (w : CW) (ins : Ins) (rest : CL)
noncomputable def compL (nt : Nat) (all : List Oper) (l : List Oper) : CL :=
  List.rec (motive := fun _ => CL) .nil (fun o r ih => .cons (o :: r) (mkCG all o.guard) (mkCW nt o.dst) (mkIns nt o) ih) l
noncomputable def cNode (P : Program) (D : Dec) (l : List Oper) (cg : CG) (w : CW) (ins : Ins) (ih : KT) (E : Tr AV) (H : Heap) : OpsR :=
  Ins.rec (motive := fun _ => OpsR) (fun f => cStep P D l cg w f ih E H) ins
noncomputable def crun (P : Program) (D : Dec) (c : CL) : KT :=
  CL.rec (motive := fun _ => KT) .done (fun l cg w ins _ ih => cNode P D l cg w ins ih) c
theorem crun_eq (P : Program) (D : Dec) (nt : Nat) (all : List Oper) : ∀ (l : List Oper), crun P D (compL nt all l) = opsF P D nt all l
  | [] => rfl
  | o :: r => by
    have ih := crun_eq P D nt all r
    funext E H
    show cNode P D (o :: r) (mkCG all o.guard) (mkCW nt o.dst) (mkIns nt o) (crun P D (compL nt all r)) E H = opsCons P D nt all o r (opsF P D nt all r) E H
    rw [ih]
    have hi : ∀ ih, (mkIns nt o).f P D (stopK (o :: r)) ih E H = opsGo P D nt o r ih E H := fun ih => mkIns_ok
    show cStep P D (o :: r) (mkCG all o.guard) (mkCW nt o.dst) (mkIns nt o).f (opsF P D nt all r) E H = _
    unfold cStep opsCons mkCG guardF
    cases o.guard with
    | none => exact hi _
    | some p =>
      obtain ⟨j, want⟩ := p
      dsimp only
      cases nth all j with
      | none => rfl
      | some oj =>
        dsimp only
        show CG.rec (motive := fun _ => OpsR) _ _ _ (Option.rec (motive := fun _ => CG) .bad (fun d => Gt.rec (motive := fun _ => CG) (fun g => .on g want) (mkGt d)) oj.dst) = Option.rec (motive := fun _ => OpsR) _ _ (Option.rec (motive := fun _ => Option Bool) none (fun d => guard3 want (E.get d)) oj.dst)
        cases oj.dst with
        | none => rfl
        | some d =>
          show cOn P D (o :: r) (mkCW nt o.dst) (mkIns nt o).f (opsF P D nt all r) E H (mkGt d).g want = Option.rec (motive := fun _ => OpsR) _ _ (guard3 want (E.get d))
          unfold cOn
          rw [mkGt_eq]
          cases guard3 want (E.get d) with
          | none => rfl
          | some b =>
            cases b with
            | true => exact hi _
            | false => exact cwVal_eq nt o r _ E H _ H
end Vx
