/-
  Regions that draw their order: how they are gone over; runs.
-/
import Derived.Test.YtmgejgbomglegaaGreatDoorVx15
namespace Vx
open Go

/-! ### What must come ahead of what -/
noncomputable def bindsA (e : Edge) : Bool :=
  match e.ground with
  | .textOnly _ => false
  | .gcOnly _ => false
  | _ => true
/-- What must come ahead, as bits: by the edges. -/
noncomputable def edgesA (mt : Tr Nat) (i : Nat) : List Edge → Nat → Option Nat
  | [], m => some m
  | e :: r, m => match bindsA e with
    | true => match Nat.ble (Nat.succ e.on) i with
      | true => edgesA mt i r (Nat.lor m (Nat.lor (Nat.pow 2 e.on) (og (mt.get e.on) 0)))
      | false => none
    | false => edgesA mt i r m
noncomputable def masksA : List Oper → Nat → Tr Nat → Option (Tr Nat)
  | [], _, mt => some mt
  | o :: r, i, mt => match edgesA mt i o.after.toList 0 with
    | some m => masksA r (Nat.succ i) (mt.put i (some m))
    | none => none
/-- Who writes a temporary; each is written once. -/
noncomputable def writersA : List Oper → Nat → Tr Nat → Option (Tr Nat)
  | [], _, wt => some wt
  | o :: r, i, wt => match o.dst with
    | none => writersA r (Nat.succ i) wt
    | some d => match wt.get d with
      | some _ => none
      | none => writersA r (Nat.succ i) (wt.put d (some i))
noncomputable def bitA (m i : Nat) : Bool := Nat.beq (Nat.mod (Nat.shiftRight m i) 2) 1
/-- A temporary that operation i reads: it is written ahead, or behind. -/
noncomputable def readOK (mt wt : Tr Nat) (i t : Nat) : Bool :=
  match wt.get t with
  | none => true
  | some k => match Nat.ble (Nat.succ k) i with
    | true => bitA (og (mt.get i) 0) k
    | false => match Nat.ble (Nat.succ i) k with
      | true => bitA (og (mt.get k) 0) i
      | false => false
noncomputable def readsOK (mt wt : Tr Nat) (i : Nat) : List Operand → Bool
  | [] => true
  | x :: r => match x with
    | .tmp t => match readOK mt wt i t with
      | true => readsOK mt wt i r
      | false => false
    | _ => readsOK mt wt i r
noncomputable def guardOK (mt wt : Tr Nat) (all : List Oper) (i : Nat) (g : Option (Nat × Bool)) : Bool :=
  match g with
  | none => true
  | some (j, _) => match nth all j with
    | some oj => match oj.dst with
      | some d => readOK mt wt i d
      | none => false
    | none => false
noncomputable def allReadsOK (mt wt : Tr Nat) (all : List Oper) : List Oper → Nat → Bool
  | [], _ => true
  | o :: r, i => match readsOK mt wt i o.op.operands.toList with
    | true => match guardOK mt wt all i o.guard with
      | true => allReadsOK mt wt all r (Nat.succ i)
      | false => false
    | false => false
/-- What must come ahead of each, if the region's temporaries are in order. -/
noncomputable def planA (ops : Array Oper) : Option (Tr Nat) :=
  match masksA ops.toList 0 .e with
  | none => none
  | some mt => match writersA ops.toList 0 .e with
    | none => none
    | some wt => match allReadsOK mt wt ops.toList ops.toList 0 with
      | true => some mt
      | false => none

/-! ### Likeness of values -/
noncomputable def opB (a b : BinOp) : Bool := Nat.beq a.ctorIdx b.ctorIdx
noncomputable def seEq : SE → SE → Bool
  | .lit x, .lit y => ibeq x y
  | .var i, .var j => Nat.beq i j
  | .bin op k a b, .bin op' k' a' b' => match opB op op' with
    | true => match kindB k k' with
      | true => match seEq a a' with
        | true => seEq b b'
        | false => false
      | false => false
    | false => false
  | .conv k a, .conv k' a' => match kindB k k' with
    | true => seEq a a'
    | false => false
  | _, _ => false
noncomputable def sesEq : List SE → List SE → Bool
  | [], [] => true
  | x :: r, y :: s => match seEq x y with
    | true => sesEq r s
    | false => false
  | _, _ => false
mutual
noncomputable def avEq (a b : AV) : Bool :=
  match a, b with
  | .bool p, .bool q => Bool.rec (motive := fun _ => Bool) (not q) q p
  | .int k x, .int k' y => match kindB k k' with
    | true => seEq x y
    | false => false
  | .str s, .str u => bytesB s.data.toList u.data.toList
  | .ustr l, .ustr r => sesEq l r
  | .ptr k o, .ptr k' o' => match Nat.beq k k' with
    | true => Nat.beq o o'
    | false => false
  | .nilp, .nilp => true
  | .sl k o l c e, .sl k' o' l' c' e' => match Nat.beq k k' with
    | true => match Nat.beq o o' with
      | true => match Nat.beq l l' with
        | true => match Nat.beq c c' with
          | true => Nat.beq e e'
          | false => false
        | false => false
      | false => false
    | false => false
  | .nils, .nils => true
  | .mp k, .mp k' => Nat.beq k k'
  | .nilm, .nilm => true
  | .fn f [] [], .fn f' [] [] => Nat.beq f f'
  | .fn f [] c, .fn f' [] c' => match Nat.beq f f' with
    | true => avsEq c c'
    | false => false
  | .yld k, .yld k' => Nat.beq k k'
  | .nilf, .nilf => true
  | .nili, .nili => true
  | .ifc t v, .ifc t' v' => match Nat.beq t t' with
    | true => avEq v v'
    | false => false
  | .agg l, .agg l' => avsEq l l'
  | _, _ => false
noncomputable def avsEq (a b : List AV) : Bool :=
  match a, b with
  | [], [] => true
  | x :: r, y :: s => match avEq x y with
    | true => avsEq r s
    | false => false
  | _, _ => false
end
noncomputable def closedA (v : AV) : Bool :=
  match v with
  | .agg l => closedL l
  | .tup l => closedL l
  | v => closedS v

/-! ### The order of the text -/
noncomputable def isPure (E : Tr AV) (op : Op) : Bool :=
  match op with
  | .move _ => true
  | .assign _ => true
  | .pick .. => true
  | .build .. => true
  | .nilCheck _ => true
  | .binOp .. => true
  | .unOp .. => true
  | .convert _ _ x => match ev E x with
    | some (.int ..) => true
    | _ => false
  | .makeInterface .. => true
  | .makeFunc .. => true
  | .fieldAddr .. => true
  | .field .. => true
  | .indexAddr .. => true
  | .index .. => true
  | .extract .. => true
  | .typeAssert .. => true
  | .slice _ x _ _ _ => match ev E x with
    | some (.sl ..) => true
    | some .nils => true
    | some (.str _) => true
    | some (.ustr _) => true
    | _ => false
  | .call c => match c.callee with
    | .builtin b => match b with
      | .len => true
      | .max => true
      | .min => true
      | _ => false
    | _ => false
  | _ => false
noncomputable def sameLoad (P : Program) (S : Heap) (t : TypeId) (ad v : AV) : Bool :=
  match loadA P S t ad with
  | some u => avEq u v
  | none => false
/-- The load gives v as long as the effects that need not have been may not have been. -/
noncomputable def snapsOK (P : Program) (t : TypeId) (ad v : AV) (B : Nat) : List (Nat × Heap) → Bool
  | [] => true
  | (e, S) :: r => match bitA B e with
    | true => true
    | false => match sameLoad P S t ad v with
      | true => snapsOK P t ad v B r
      | false => false
noncomputable def loadsOK (P : Program) (S : Heap) (B : Nat) : List (Nat × TypeId × AV × AV) → Bool
  | [] => true
  | (i, t, ad, v) :: r => match bitA B i with
    | true => loadsOK P S B r
    | false => match sameLoad P S t ad v with
      | true => loadsOK P S B r
      | false => false
noncomputable def clearA : List Oper → Tr AV → Tr AV
  | [], E => E
  | o :: r, E => match o.dst with
    | none => clearA r E
    | some d => clearA r (E.put d none)
abbrev Rec := AM → Option (FuncId × Fin' × Heap)
noncomputable def emptyH : Heap := ⟨.e, 0⟩
/-- A call that hangs on no memory. -/
noncomputable def closedCall (P : Program) (D : Dec) (rec : Rec) (f : FuncId) (args : List AV) : Option AV :=
  match plugA D f args with
  | some v => some v
  | none => match closedL args with
    | false => none
    | true => match enterA P f args false with
      | none => none
      | some g => match rec ⟨g, [], emptyH⟩ with
        | some (_, .ret v, _) => match closedA v with
          | true => some v
          | false => none
        | _ => none
inductive EffR : Type where
  | ok (v : AV) (H : Heap)
  | pan (c : List AEnt) (H : Heap)
  | bad
noncomputable def effA (P : Program) (D : Dec) (rec : Rec) (H : Heap) (r : OpR) : EffR :=
  match r with
  | .val v H' => .ok v H'
  | .call f args => match D.hp f args H with
    | some (v, H') => .ok v H'
    | none => match enterA P f args false with
      | none => .bad
      | some g => match rec ⟨g, [], H⟩ with
        | some (_, .ret v, H') => .ok v H'
        | some (_, .pan c, H') => .pan c H'
        | none => .bad
  | .yield kk args => match H.tr.get kk with
    | some (.loop _ _ fn' nt' tm ps as bd _) => match bindA nt' tm ps.toList args with
      | some E' => match rec ⟨⟨fn', false, some kk, nt', E', [.code as, .beginRound, .code bd], [], .run⟩, [], H⟩ with
        | some (_, .ret v, H') => .ok v H'
        | some (_, .pan c, H') => .pan c H'
        | none => .bad
      | none => .bad
    | _ => .bad
  | .pan v => .pan [⟨v, false⟩] H
  | _ => .bad
/-- Behind an operation p that panics: what need not come behind it has no effect. -/
noncomputable def drawPan (P : Program) (D : Dec) (rec : Rec) (all : Array Oper) (mt : Tr Nat) (base nt : Nat) (E0 : Tr AV) (p : Nat) (c : List AEnt) (Hp : Heap) : List Oper → Nat → Tr AV → Heap → Heap → List (Nat × Heap) → List (Nat × TypeId × AV × AV) → Nat → Nat → DrawR
  | [], _, _, _, _, _, _, _, _ => .pan (clearA all.toList E0) c Hp
  | o :: rest, i, E, H, cur, sn, ld, am, xm => match bitA (og (mt.get i) 0) p with
    | true => match putA nt E o.dst (.tup []) with
      | some E' => drawPan P D rec all mt base nt E0 p c Hp rest (Nat.succ i) E' H cur sn ld am xm
      | none => .bad
    | false => match wantedA all E o with
      | none => .bad
      | some false => match putA nt E o.dst (.tup []) with
        | some E' => drawPan P D rec all mt base nt E0 p c Hp rest (Nat.succ i) E' H cur sn ld am xm
        | none => .bad
      | some true => match isPure E o.op with
        | true => match opA P D E H o.op with
          | .val v _ => match putA nt E o.dst v with
            | some E' => drawPan P D rec all mt base nt E0 p c Hp rest (Nat.succ i) E' H cur sn ld am xm
            | none => .bad
          | _ => .bad
        | false => match o.op with
          | .load t x => match ev E x with
            | some ad => match loadA P cur t ad with
              | some v => match snapsOK P t ad v (og (mt.get i) 0) sn with
                | true => match putA nt E o.dst v with
                  | some E' => drawPan P D rec all mt base nt E0 p c Hp rest (Nat.succ i) E' H cur sn ((i, t, ad, v) :: ld) am xm
                  | none => .bad
                | false => .bad
              | none => .bad
            | none => .bad
          | op => match opMk P E op with
            | some m => match putA nt E o.dst (m.2 (Nat.add base i)) with
              | some E' => drawPan P D rec all mt base nt E0 p c Hp rest (Nat.succ i) E' ⟨H.tr.put (Nat.add base i) (some m.1), H.next⟩ cur sn ld (Nat.lor am (Nat.pow 2 i)) xm
              | none => .bad
            | none => match (match opA P D E H op with | .call f args => closedCall P D rec f args | _ => none) with
              | some v => match putA nt E o.dst v with
                | some E' => drawPan P D rec all mt base nt E0 p c Hp rest (Nat.succ i) E' H cur sn ld am xm
                | none => .bad
              | none => .bad
/-- cur: the heap behind the last effect; sn: the effects, each with the heap ahead of it; ld: the loads; am, xm: what has made, what has had an effect. -/
noncomputable def drawGo (P : Program) (D : Dec) (rec : Rec) (all : Array Oper) (mt : Tr Nat) (n base nt : Nat) (E0 : Tr AV) : List Oper → Nat → Tr AV → Heap → Heap → List (Nat × Heap) → List (Nat × TypeId × AV × AV) → Nat → Nat → DrawR
  | [], _, E, H, _, _, _, _, _ => .ok E H
  | o :: rest, i, E, H, cur, sn, ld, am, xm => match wantedA all E o with
    | none => .bad
    | some false => match putA nt E o.dst (.tup []) with
      | some E' => drawGo P D rec all mt n base nt E0 rest (Nat.succ i) E' H cur sn ld am xm
      | none => .bad
    | some true => match isPure E o.op with
      | true => match opA P D E H o.op with
        | .val v _ => match putA nt E o.dst v with
          | some E' => drawGo P D rec all mt n base nt E0 rest (Nat.succ i) E' H cur sn ld am xm
          | none => .bad
        | _ => .bad
      | false => match o.op with
        | .load t x => match ev E x with
          | some ad => match loadA P cur t ad with
            | some v => match snapsOK P t ad v (og (mt.get i) 0) sn with
              | true => match putA nt E o.dst v with
                | some E' => drawGo P D rec all mt n base nt E0 rest (Nat.succ i) E' H cur sn ((i, t, ad, v) :: ld) am xm
                | none => .bad
              | false => .bad
            | none => .bad
          | none => .bad
        | op => match opMk P E op with
          | some m => match putA nt E o.dst (m.2 (Nat.add base i)) with
            | some E' => drawGo P D rec all mt n base nt E0 rest (Nat.succ i) E' ⟨H.tr.put (Nat.add base i) (some m.1), H.next⟩ cur sn ld (Nat.lor am (Nat.pow 2 i)) xm
            | none => .bad
          | none => match opA P D E H op with
            | r => match (match r with | .call f args => closedCall P D rec f args | _ => none) with
              | some v => match putA nt E o.dst v with
                | some E' => drawGo P D rec all mt n base nt E0 rest (Nat.succ i) E' H cur sn ld am xm
                | none => .bad
              | none => match Nat.beq (Nat.land (Nat.lor am xm) (og (mt.get i) 0)) (Nat.lor am xm) with
                | false => .bad
                | true => match effA P D rec H r with
                  | .ok v H' => match loadsOK P H' (og (mt.get i) 0) ld with
                    | true => match putA nt E o.dst v with
                      | some E' => drawGo P D rec all mt n base nt E0 rest (Nat.succ i) E' H' H' ((i, cur) :: sn) ld am (Nat.lor xm (Nat.pow 2 i))
                      | none => .bad
                    | false => .bad
                  | .pan c H' => match putA nt E o.dst (.tup []) with
                    | some E' => drawPan P D rec all mt base nt E0 i c H' rest (Nat.succ i) E' H cur sn ld am xm
                    | none => .bad
                  | .bad => .bad
noncomputable def drawA (P : Program) (D : Dec) (rec : Rec) : Rg := fun nt E H ops =>
  match planA ops with
  | none => .bad
  | some mt => drawGo P D rec ops mt ops.toList.length H.next nt E ops.toList 0 E ⟨H.tr, Nat.add H.next ops.toList.length⟩ ⟨H.tr, Nat.add H.next ops.toList.length⟩ [] [] 0 0

/-! ### Runs -/
noncomputable def run (P : Program) (D : Dec) (n : Nat) : Rec :=
  Nat.rec (motive := fun _ => Rec) (fun _ => none) (fun _ ih m =>
    SR.rec (motive := fun _ => Option (FuncId × Fin' × Heap)) (fun m' => ih m') (fun fn f H => some (fn, f, H)) (fun v H => some (0, .ret v, H)) none (astep P D (drawA P D ih) m)) n
end Vx
