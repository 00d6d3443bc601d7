/-
  One step of the abstract machine.
-/
import Derived.Test.YtmgejgbomglegaaGreatDoorVx11
namespace Vx
open Go

noncomputable def putA (nt : Nat) (E : Tr AV) (dst : Option Tmp) (v : AV) : Option (Tr AV) :=
  match dst with
  | none => some E
  | some d => match Nat.ble (Nat.succ d) nt with
    | true => some (E.put d (some v))
    | false => none
noncomputable def wantedA (all : Array Oper) (E : Tr AV) (o : Oper) : Option Bool :=
  match o.guard with
  | none => some true
  | some (j, want) => match nth all.toList j with
    | some oj => match oj.dst with
      | some d => match E.get d with
        | some (.bool b) => some (Bool.rec (motive := fun _ => Bool) (not want) want b)
        | some (.tup _) => some false
        | _ => none
      | none => none
    | none => none
inductive Fin' : Type where
  | ret (v : AV)
  | pan (c : List AEnt)
inductive SR : Type where
  | next (m : AM)
  | fin (fn : FuncId) (f : Fin') (H : Heap)
  | finR (v : AV) (H : Heap)
  | bad
inductive DrawR : Type where
  | ok (E : Tr AV) (H : Heap)
  | pan (E : Tr AV) (c : List AEnt) (H : Heap)
  | bad
abbrev Rg := Nat → Tr AV → Heap → Array Oper → DrawR
noncomputable def enterA (P : Program) (f : FuncId) (args : List AV) (df : Bool) : Option AF :=
  match P.funcs[f]? with
  | some F => match F.body with
    | some c => match Nat.ble args.length F.ntmps with
      | true => some ⟨f, df, none, F.ntmps, ofList args 0 .e, [.code c], [], .run⟩
      | false => none
    | none => none
  | none => none
noncomputable def bindA (nt : Nat) (tm : Tr AV) : List Tmp → List AV → Option (Tr AV)
  | [], [] => some tm
  | p :: ps, v :: vs => match Nat.ble (Nat.succ p) nt with
    | true => bindA nt (tm.put p (some v)) ps vs
    | false => none
  | _, _ => none
noncomputable def finishA (c : AF) (v : AV) : Option AF :=
  match c with
  | ⟨fn, df, ro, nt, E, todo, dfs, mode⟩ => match mode with
    | .run => match todo with
      | .inOps all (o :: rest) :: k => match putA nt E o.dst v with
        | some E' => some ⟨fn, df, ro, nt, E', .inOps all rest :: k, dfs, .run⟩
        | none => none
      | .inRF l :: k => some ⟨fn, df, ro, nt, E, .endRF l :: k, dfs, .run⟩
      | _ => none
    | _ => none
/-- A round is left. -/
noncomputable def endRoundA (fn : FuncId) (df : Bool) (ro : Option Nat) (nt : Nat) (E : Tr AV) (todo : List AItem) (dfs : List ADef) (cs : List AF) (H : Heap) (jump : Option Code) : SR :=
  match ro with
  | none => match jump with
    | none => .next ⟨⟨fn, df, none, nt, E, todo, dfs, .ret⟩, cs, H⟩
    | some .ret => .next ⟨⟨fn, df, none, nt, E, todo, dfs, .ret⟩, cs, H⟩
    | _ => .bad
  | some l => match df with
    | true => .bad
    | false => match H.tr.get l with
      | some (.loop _ _ fn' nt' tm ps as bd d) => match jump with
        | none => match cs with
          | [] => .finR (.bool true) (H.set l (.loop .ready none fn' nt' tm ps as bd d))
          | c :: cs' => match finishA c (.bool true) with
            | some c' => .next ⟨c', cs', H.set l (.loop .ready none fn' nt' tm ps as bd d)⟩
            | none => .bad
        | some j => match cs with
          | [] => .finR (.bool false) (H.set l (.loop .done (some j) fn' nt' tm ps as bd d))
          | c :: cs' => match finishA c (.bool false) with
            | some c' => .next ⟨c', cs', H.set l (.loop .done (some j) fn' nt' tm ps as bd d)⟩
            | none => .bad
      | _ => .bad
noncomputable def exitToA (id : Nat) : List AItem → Option (List AItem)
  | [] => none
  | it :: k => match it with
    | .inBlock j => match Nat.beq j id with
      | true => some k
      | false => exitToA id k
    | _ => exitToA id k
noncomputable def gotoA (l : Nat) : List AItem → Option (List AItem)
  | [] => none
  | it :: k => match it with
    | .inScope b => match findLabel b l with
      | some r => some (.code r :: .inScope b :: k)
      | none => gotoA l k
    | _ => gotoA l k
noncomputable def opStep (P : Program) (D : Dec) (fn : FuncId) (df : Bool) (ro : Option Nat) (nt : Nat) (E : Tr AV) (all : Array Oper) (o : Oper) (rest : List Oper) (k : List AItem) (dfs : List ADef) (cs : List AF) (H : Heap) : SR :=
  match wantedA all E o with
  | none => .bad
  | some false => match putA nt E o.dst (.tup []) with
    | some E' => .next ⟨⟨fn, df, ro, nt, E', .inOps all rest :: k, dfs, .run⟩, cs, H⟩
    | none => .bad
  | some true => match opA P D E H o.op with
    | .val v H' => match putA nt E o.dst v with
      | some E' => .next ⟨⟨fn, df, ro, nt, E', .inOps all rest :: k, dfs, .run⟩, cs, H'⟩
      | none => .bad
    | .call f args => match plugA D f args with
      | some v => match putA nt E o.dst v with
        | some E' => .next ⟨⟨fn, df, ro, nt, E', .inOps all rest :: k, dfs, .run⟩, cs, H⟩
        | none => .bad
      | none => match D.hp f args H with
        | some (v, H') => match putA nt E o.dst v with
          | some E' => .next ⟨⟨fn, df, ro, nt, E', .inOps all rest :: k, dfs, .run⟩, cs, H'⟩
          | none => .bad
        | none => match enterA P f args false with
          | some g => .next ⟨g, ⟨fn, df, ro, nt, E, .inOps all (o :: rest) :: k, dfs, .run⟩ :: cs, H⟩
          | none => .bad
    | .yield kk args => match H.tr.get kk with
      | some (.loop _ _ fn' nt' tm ps as bd _) => match bindA nt' tm ps.toList args with
        | some E' => .next ⟨⟨fn', false, some kk, nt', E', [.code as, .beginRound, .code bd], [], .run⟩, ⟨fn, df, ro, nt, E, .inOps all (o :: rest) :: k, dfs, .run⟩ :: cs, H⟩
        | none => .bad
      | _ => .bad
    | .dfr d => match ro with
      | some _ => .bad
      | none => match putA nt E o.dst (.tup []) with
        | some E' => .next ⟨⟨fn, df, none, nt, E', .inOps all rest :: k, d :: dfs, .run⟩, cs, H⟩
        | none => .bad
    | .recov => match ro with
      | some _ => .bad
      | none => match df with
        | false => match putA nt E o.dst .nili with
          | some E' => .next ⟨⟨fn, false, none, nt, E', .inOps all rest :: k, dfs, .run⟩, cs, H⟩
          | none => .bad
        | true => match cs with
          | [] => .bad
          | ⟨cfn, cdf, cro, cnt, cE, ctodo, cdfs, cmode⟩ :: cs' => match cmode with
            | .run => .bad
            | .ret => match putA nt E o.dst .nili with
              | some E' => .next ⟨⟨fn, true, none, nt, E', .inOps all rest :: k, dfs, .run⟩, ⟨cfn, cdf, cro, cnt, cE, ctodo, cdfs, .ret⟩ :: cs', H⟩
              | none => .bad
            | .pan ch => match ch with
              | ⟨v, false⟩ :: older => match putA nt E o.dst v with
                | some E' => .next ⟨⟨fn, true, none, nt, E', .inOps all rest :: k, dfs, .run⟩, ⟨cfn, cdf, cro, cnt, cE, ctodo, cdfs, .pan (⟨v, true⟩ :: older)⟩ :: cs', H⟩
                | none => .bad
              | _ => .bad
    | .pan v => .next ⟨⟨fn, df, ro, nt, E, .inOps all (o :: rest) :: k, dfs, .pan [⟨v, false⟩]⟩, cs, H⟩
    | .bad => .bad
noncomputable def codeStep (P : Program) (rg : Rg) (fn : FuncId) (df : Bool) (ro : Option Nat) (nt : Nat) (E : Tr AV) (c : Code) (k : List AItem) (dfs : List ADef) (cs : List AF) (H : Heap) : SR :=
  match c with
  | .skip => .next ⟨⟨fn, df, ro, nt, E, k, dfs, .run⟩, cs, H⟩
  | .region _ ops draw => match draw with
    | false => .next ⟨⟨fn, df, ro, nt, E, .inOps ops ops.toList :: k, dfs, .run⟩, cs, H⟩
    | true => match rg nt E H ops with
      | .ok E' H' => .next ⟨⟨fn, df, ro, nt, E', k, dfs, .run⟩, cs, H'⟩
      | .pan E' ch H' => .next ⟨⟨fn, df, ro, nt, E', k, dfs, .pan ch⟩, cs, H'⟩
      | .bad => .bad
  | .seq a b => .next ⟨⟨fn, df, ro, nt, E, .code a :: .code b :: k, dfs, .run⟩, cs, H⟩
  | .cond x a b => match ev E x with
    | some (.bool t) => match t with
      | true => .next ⟨⟨fn, df, ro, nt, E, .code a :: k, dfs, .run⟩, cs, H⟩
      | false => .next ⟨⟨fn, df, ro, nt, E, .code b :: k, dfs, .run⟩, cs, H⟩
    | _ => .bad
  | .block id b => .next ⟨⟨fn, df, ro, nt, E, .code b :: .inBlock id :: k, dfs, .run⟩, cs, H⟩
  | .loop b => .next ⟨⟨fn, df, ro, nt, E, .code b :: .inLoop b :: k, dfs, .run⟩, cs, H⟩
  | .rangeFunc x ps as bd => match ro with
    | some _ => .bad
    | none => match ev E x with
      | some (.fn g first cap) => match bodied P g with
        | true => match enterA P g (first ++ [.yld (Nat.succ H.next)] ++ cap) false with
          | some nf => .next ⟨nf, ⟨fn, df, none, nt, E, .inRF (Nat.succ H.next) :: k, .coll H.next :: dfs, .run⟩ :: cs, (H.add .dfr).add (.loop .ready none fn nt E ps as bd H.next)⟩
          | none => .bad
        | false => .bad
      | _ => .bad
  | .exit id => match exitToA id k with
    | some k' => .next ⟨⟨fn, df, ro, nt, E, k', dfs, .run⟩, cs, H⟩
    | none => match ro with
      | some _ => endRoundA fn df ro nt E k dfs cs H (some (.exit id))
      | none => .bad
  | .label _ => .next ⟨⟨fn, df, ro, nt, E, k, dfs, .run⟩, cs, H⟩
  | .scope b => .next ⟨⟨fn, df, ro, nt, E, .code b :: .inScope b :: k, dfs, .run⟩, cs, H⟩
  | .goto l => match gotoA l k with
    | some k' => .next ⟨⟨fn, df, ro, nt, E, k', dfs, .run⟩, cs, H⟩
    | none => .bad
  | .ret => endRoundA fn df ro nt E k dfs cs H (some .ret)
  | _ => .bad
noncomputable def resA (P : Program) (E : Tr AV) (H : Heap) : List ResultVar → Option (List AV)
  | [] => some []
  | r :: rs => match r with
    | .tmp t => match E.get t with
      | some v => match resA P E H rs with
        | some l => some (v :: l)
        | none => none
      | none => none
    | .cell t ty => match E.get t with
      | some x => match loadA P H ty x with
        | some v => match resA P E H rs with
          | some l => some (v :: l)
          | none => none
        | none => none
      | none => none
noncomputable def resultA (P : Program) (fn : FuncId) (E : Tr AV) (H : Heap) : Option AV :=
  match P.funcs[fn]? with
  | some F => match resA P E H F.results.toList with
    | some l => match l with
      | [v] => some v
      | l => some (.tup l)
    | none => none
  | none => none
noncomputable def settleA (m : AMode) : AMode :=
  match m with
  | .pan ch => match ch with
    | ⟨_, true⟩ :: _ => .ret
    | ch => .pan ch
  | m => m
noncomputable def raisedA (m : AMode) (ch : List AEnt) : AMode :=
  match m with
  | .pan old => .pan (ch ++ old)
  | _ => .pan ch
noncomputable def outStep (P : Program) (fn : FuncId) (df : Bool) (ro : Option Nat) (nt : Nat) (E : Tr AV) (todo : List AItem) (dfs : List ADef) (mode : AMode) (cs : List AF) (H : Heap) : SR :=
  match dfs with
  | d :: ds => match d with
    | .coll k => match H.tr.get k with
      | some .dfr => .next ⟨⟨fn, df, ro, nt, E, todo, ds, mode⟩, cs, H.kill k⟩
      | _ => .bad
    | .fn f args cap => match bodied P f with
      | true => match enterA P f (args ++ cap) true with
        | some g => .next ⟨g, ⟨fn, df, ro, nt, E, todo, ds, mode⟩ :: cs, H⟩
        | none => .bad
      | false => .bad
  | [] => match mode with
    | .run => .bad
    | .ret => match resultA P fn E H with
      | none => .bad
      | some v => match cs with
        | [] => match df with
          | false => .fin fn (.ret v) H
          | true => .bad
        | c :: cs' => match df with
          | false => match finishA c v with
            | some c' => .next ⟨c', cs', H⟩
            | none => .bad
          | true => match c with
            | ⟨cfn, cdf, cro, cnt, cE, ctodo, cdfs, cmode⟩ => match cmode with
              | .run => .bad
              | cmode => .next ⟨⟨cfn, cdf, cro, cnt, cE, ctodo, cdfs, settleA cmode⟩, cs', H⟩
    | .pan ch => match P.funcs[fn]? with
      | none => .bad
      | some _ => match cs with
        | [] => .fin fn (.pan ch) H
        | ⟨cfn, cdf, cro, cnt, cE, ctodo, cdfs, cmode⟩ :: cs' => .next ⟨⟨cfn, cdf, cro, cnt, cE, ctodo, cdfs, raisedA cmode ch⟩, cs', H⟩
noncomputable def astep (P : Program) (D : Dec) (rg : Rg) (m : AM) : SR :=
  match m with
  | ⟨⟨fn, df, ro, nt, E, todo, dfs, mode⟩, cs, H⟩ => match mode with
    | .run => match todo with
      | [] => endRoundA fn df ro nt E [] dfs cs H none
      | it :: k => match it with
        | .code c => codeStep P rg fn df ro nt E c k dfs cs H
        | .inBlock _ => .next ⟨⟨fn, df, ro, nt, E, k, dfs, .run⟩, cs, H⟩
        | .inScope _ => .next ⟨⟨fn, df, ro, nt, E, k, dfs, .run⟩, cs, H⟩
        | .inLoop b => .next ⟨⟨fn, df, ro, nt, E, .code b :: .inLoop b :: k, dfs, .run⟩, cs, H⟩
        | .inOps all rest => match rest with
          | [] => .next ⟨⟨fn, df, ro, nt, E, k, dfs, .run⟩, cs, H⟩
          | o :: rest => opStep P D fn df ro nt E all o rest k dfs cs H
        | .inRF _ => .bad
        | .endRF l => match H.tr.get l with
          | some (.loop st pe fn' nt' tm ps as bd d) => match st with
            | .busy => .bad
            | _ => match pe with
              | none => .next ⟨⟨fn, df, ro, nt, E, k, dfs, .run⟩, cs, H.set l (.loop .exhausted none fn' nt' tm ps as bd d)⟩
              | some j => .next ⟨⟨fn, df, ro, nt, E, .code j :: k, dfs, .run⟩, cs, H.set l (.loop .exhausted (some j) fn' nt' tm ps as bd d)⟩
          | _ => .bad
        | .beginRound => match ro with
          | none => .bad
          | some l => match H.tr.get l with
            | some (.loop st pe fn' nt' tm ps as bd d) => match st with
              | .ready => .next ⟨⟨fn, df, ro, nt, E, k, dfs, .run⟩, cs, H.set l (.loop .busy pe fn' nt' tm ps as bd d)⟩
              | _ => .bad
            | _ => .bad
    | mode => outStep P fn df ro nt E todo dfs mode cs H
end Vx
