/-
  The same evaluator, quicker: dispatch with closed arms, many operations at once.
-/
import Derived.Test.YtmgejgbomglegaaGreatDoorVx16
namespace Vx
open Go

/-! ### Views: of values, by closed arms -/
inductive V1 : Type where
  | int (k : IntKind) (n : SE)
  | bool (b : Bool)
  | ptr (k o : Nat)
  | tup
  | other
noncomputable def view1 (v : AV) : V1 :=
  AV.rec (motive_1 := fun _ => V1) (motive_2 := fun _ => V1) (fun b => .bool b) (fun k n => .int k n) (fun _ _ => .other) (fun _ => .other) (fun _ => .other) (fun k o => .ptr k o) .other (fun _ _ _ _ _ => .other) .other (fun _ => .other) .other
    (fun _ _ _ _ _ => .other) (fun _ => .other) .other (fun _ _ _ => .other) .other (fun _ _ => .other) (fun _ _ => .tup) (fun _ _ => .other) (fun _ => .other) .other (fun _ _ _ _ => .other) v
noncomputable def vLit (e : SE) : Option Int := SE.rec (motive := fun _ => Option Int) (fun n => some n) (fun _ => none) (fun _ _ _ _ _ _ => none) (fun _ _ _ => none) e
noncomputable def forceNat {R : Type} (n : Nat) (k : Nat → R) : R := Nat.rec (motive := fun _ => R) (k 0) (fun m _ => k (Nat.succ m)) n
theorem forceNat_eq {R : Type} (n : Nat) (k : Nat → R) : forceNat n k = k n := by cases n <;> rfl
noncomputable def forceInt {R : Type} (n : Int) (k : Int → R) : R := Int.rec (motive := fun _ => R) (fun m => forceNat m fun m => k (.ofNat m)) (fun m => forceNat m fun m => k (.negSucc m)) n
theorem forceInt_eq {R : Type} (n : Int) (k : Int → R) : forceInt n k = k n := by
  cases n with
  | ofNat m => exact forceNat_eq m fun m => k (.ofNat m)
  | negSucc m => exact forceNat_eq m fun m => k (.negSucc m)
noncomputable def forceBool {R : Type} (b : Bool) (k : Bool → R) : R := Bool.rec (motive := fun _ => R) (k false) (k true) b
theorem forceBool_eq {R : Type} (b : Bool) (k : Bool → R) : forceBool b k = k b := by cases b <;> rfl
noncomputable def evF (x : Operand) : Tr AV → Option AV :=
  Operand.rec (motive := fun _ => Tr AV → Option AV) (fun t E => E.get t) (fun v _ => ofV v) (fun _ _ => none) (fun f _ => some (.fn f [] [])) x
theorem evF_eq (x : Operand) (E : Tr AV) : evF x E = ev E x := by cases x <;> rfl

/-! ### Whole numbers that are known -/
abbrev BT := IntKind → IntKind → Int → Int → Option AV
noncomputable def bI (f : IntKind → Int → Int → Int) : BT := fun k k' x y => Bool.rec (motive := fun _ => Option AV) none (forceInt (f k x y) fun z => some (.int k (.lit z))) (kindB k k')
noncomputable def bB (f : Int → Int → Bool) : BT := fun k k' x y => Bool.rec (motive := fun _ => Option AV) none (forceBool (f x y) fun z => some (.bool z)) (kindB k k')
noncomputable def bAdd : BT := bI fun k x y => wrapF k (Int.add x y)
noncomputable def bSub : BT := bI fun k x y => wrapF k (Int.sub x y)
noncomputable def bMul : BT := bI fun k x y => wrapF k (Int.mul x y)
noncomputable def decN : Dec := ⟨fun _ _ _ => none, fun e => e, fun _ _ => none, fun _ => none, fun _ _ _ => none⟩
noncomputable def bGen (op : BinOp) : BT := fun k k' x y => intBinA decN op k (.lit x) k' (.lit y)
noncomputable def bEql : BT := bB ibeq
noncomputable def bNeq : BT := bB fun x y => not (ibeq x y)
noncomputable def bLss : BT := bB iblt
noncomputable def bLeq : BT := bB fun x y => not (iblt y x)
noncomputable def bGtr : BT := bB fun x y => iblt y x
noncomputable def bGeq : BT := bB fun x y => not (iblt x y)
noncomputable def litBin (op : BinOp) : BT :=
  BinOp.rec (motive := fun _ => BT) bAdd bSub bMul (bGen .quo) (bGen .rem) (bGen .and) (bGen .or) (bGen .xor) (bGen .shl) (bGen .shr) (bGen .andNot) bEql bNeq bLss bLeq bGtr bGeq op
theorem litBin_eq (D : Dec) (op : BinOp) (k k' : IntKind) (x y : Int) : litBin op k k' x y = intBinA D op k (.lit x) k' (.lit y) := by
  cases op <;> first
    | rfl
    | (simp only [litBin, bAdd, bSub, bMul, bEql, bNeq, bLss, bLeq, bGtr, bGeq, bI, bB, intBinA, forceInt_eq, forceBool_eq]; cases kindB k k' <;> rfl)
noncomputable def binSlow (P : Program) (D : Dec) (op : BinOp) (t : TypeId) (y : Operand) (a b : AV) : Option AV := binB P D op t y a b
noncomputable def bin4 (P : Program) (D : Dec) (op : BinOp) (t : TypeId) (yo : Operand) (a b : AV) (k k' : IntKind) (x : Int) (y : Option Int) : Option AV :=
  Option.rec (motive := fun _ => Option AV) (binSlow P D op t yo a b) (fun y => litBin op k k' x y) y
noncomputable def bin3 (P : Program) (D : Dec) (op : BinOp) (t : TypeId) (yo : Operand) (a b : AV) (k k' : IntKind) (m : SE) (x : Option Int) : Option AV :=
  Option.rec (motive := fun _ => Option AV) (binSlow P D op t yo a b) (fun x => bin4 P D op t yo a b k k' x (vLit m)) x
noncomputable def bin2 (P : Program) (D : Dec) (op : BinOp) (t : TypeId) (yo : Operand) (a b : AV) (k : IntKind) (n : SE) (vb : V1) : Option AV :=
  V1.rec (motive := fun _ => Option AV) (fun k' m => bin3 P D op t yo a b k k' m (vLit n)) (fun _ => binSlow P D op t yo a b) (fun _ _ => binSlow P D op t yo a b) (binSlow P D op t yo a b) (binSlow P D op t yo a b) vb
noncomputable def binF1 (P : Program) (D : Dec) (op : BinOp) (t : TypeId) (yo : Operand) (a b : AV) : Option AV :=
  V1.rec (motive := fun _ => Option AV) (fun k n => bin2 P D op t yo a b k n (view1 b)) (fun _ => binSlow P D op t yo a b) (fun _ _ => binSlow P D op t yo a b) (binSlow P D op t yo a b) (binSlow P D op t yo a b) (view1 a)
theorem vLit_eq {e : SE} {n : Int} (h : vLit e = some n) : e = .lit n := by
  cases e <;> simp [vLit] at h; subst h; rfl
theorem binF1_eq (P : Program) (D : Dec) (op : BinOp) (t : TypeId) (yo : Operand) (a b : AV) : binF1 P D op t yo a b = binB P D op t yo a b := by
  have ha : (∃ k n, a = .int k n) ∨ (view1 a = .other ∨ (∃ b, view1 a = .bool b) ∨ (∃ k o, view1 a = .ptr k o) ∨ view1 a = .tup) := by
    cases a <;> first
      | exact .inl ⟨_, _, rfl⟩
      | exact .inr (.inl rfl)
      | exact .inr (.inr (.inl ⟨_, rfl⟩))
      | exact .inr (.inr (.inr (.inl ⟨_, _, rfl⟩)))
      | exact .inr (.inr (.inr (.inr rfl)))
  rcases ha with ⟨k, n, rfl⟩ | h | ⟨_, h⟩ | ⟨_, _, h⟩ | h
  · have hb : (∃ k n, b = .int k n) ∨ (view1 b = .other ∨ (∃ c, view1 b = .bool c) ∨ (∃ k o, view1 b = .ptr k o) ∨ view1 b = .tup) := by
      cases b <;> first
        | exact .inl ⟨_, _, rfl⟩
        | exact .inr (.inl rfl)
        | exact .inr (.inr (.inl ⟨_, rfl⟩))
        | exact .inr (.inr (.inr (.inl ⟨_, _, rfl⟩)))
        | exact .inr (.inr (.inr (.inr rfl)))
    rcases hb with ⟨k', m, rfl⟩ | h | ⟨_, h⟩ | ⟨_, _, h⟩ | h
    · show bin3 P D op t yo (.int k n) (.int k' m) k k' m (vLit n) = _
      unfold bin3
      cases hn : vLit n with
      | none => rfl
      | some x =>
        show bin4 P D op t yo (.int k n) (.int k' m) k k' x (vLit m) = _
        unfold bin4
        cases hm : vLit m with
        | none => rfl
        | some y =>
          have e1 := vLit_eq hn
          have e2 := vLit_eq hm
          subst e1; subst e2
          show litBin op k k' x y = _
          rw [litBin_eq D]
          unfold binB
          show _ = (match intBinA D op k (.lit x) k' (.lit y) with
            | some r => some r
            | none => nilNil P op t yo (AV.int k (SE.lit x)) (AV.int k' (SE.lit y)))
          cases intBinA D op k (.lit x) k' (.lit y) with
          | none => simp [nilNil]
          | some r => rfl
    · show bin2 P D op t yo (.int k n) b k n (view1 b) = _; rw [h]; rfl
    · show bin2 P D op t yo (.int k n) b k n (view1 b) = _; rw [h]; rfl
    · show bin2 P D op t yo (.int k n) b k n (view1 b) = _; rw [h]; rfl
    · show bin2 P D op t yo (.int k n) b k n (view1 b) = _; rw [h]; rfl
  · unfold binF1; rw [h]; rfl
  · unfold binF1; rw [h]; rfl
  · unfold binF1; rw [h]; rfl
  · unfold binF1; rw [h]; rfl

/-! ### One operation -/
noncomputable def val1F (x : Option AV) (H : Heap) : OpR := Option.rec (motive := fun _ => OpR) .bad (fun v => .val v H) x
theorem val1F_eq (x : Option AV) (H : Heap) : val1F x H = val1 x H := by cases x <;> rfl
section arms
abbrev OpT := Program → Dec → Tr AV → Heap → OpR
noncomputable def aBad : OpT := fun _ _ _ _ => .bad
noncomputable def aMove : Operand → OpT := fun x _ _ E H => val1F (evF x E) H
noncomputable def aPick : Operand → Operand → Operand → OpT := fun c a b P D E H => opA P D E H (.pick c a b)
noncomputable def aAlloc : TypeId → OpT := fun t P _ E H => mkR (opMk P E (.alloc t)) H
noncomputable def aBox : TypeId → Operand → OpT := fun t x P _ E H => mkR (opMk P E (.box t x)) H
noncomputable def aBuild : TypeId → Array (Nat × Operand) → OpT := fun t ps P _D E H => (match evp E ps.toList with
    | some ps => match builtA P t ps with
      | some r => .val (.agg r) H
      | none => .bad
    | none => .bad)
noncomputable def aBuildSlice : TypeId → Nat → Array (Nat × Operand) → OpT := fun t n ps P _ E H => mkR (opMk P E (.buildSlice t n ps)) H
noncomputable def aLoad : TypeId → Operand → OpT := fun t x P _ E H => (match ev E x with
    | some a => val1 (loadA P H t a) H
    | none => .bad)
noncomputable def aStore : TypeId → Operand → Operand → OpT := fun t x y P _ E H => (match ev E x with
    | some a => match ev E y with
      | some v => match storeA P H t a v with
        | some H' => .val (.tup []) H'
        | none => .bad
      | none => .bad
    | none => .bad)
noncomputable def aNilCheck : Operand → OpT := fun x _ _ E H => (match ev E x with
    | some (.ptr k o) => .val (.ptr k o) H
    | some (.fn f a c) => .val (.fn f a c) H
    | some (.yld k) => .val (.yld k) H
    | _ => .bad)
noncomputable def aBin2 (P : Program) (D : Dec) (op : BinOp) (t : TypeId) (y : Operand) (H : Heap) (a : AV) (b : Option AV) : OpR :=
  Option.rec (motive := fun _ => OpR) .bad (fun b => val1F (binF1 P D op t y a b) H) b
noncomputable def aBin1 (P : Program) (D : Dec) (op : BinOp) (t : TypeId) (y : Operand) (E : Tr AV) (H : Heap) (a : Option AV) : OpR :=
  Option.rec (motive := fun _ => OpR) .bad (fun a => aBin2 P D op t y H a (evF y E)) a
noncomputable def aBin : BinOp → TypeId → Operand → Operand → TypeId → OpT := fun op t x y _ P D E H => aBin1 P D op t y E H (evF x E)
noncomputable def aUn : UnOp → TypeId → Operand → OpT := fun op _t x _P D E H => (match op with
    | .not => match ev E x with
      | some (.bool b) => .val (.bool (not b)) H
      | _ => .bad
    | .neg => match ev E x with
      | some (.int k e) => .val (.int k (arith D .sub k (.lit 0) e)) H
      | _ => .bad
    | _ => .bad)
noncomputable def aConvert : TypeId → TypeId → Operand → OpT := fun src dst x P _ E H => (match ev E x with
    | some a => val1 (convX P H src dst a) H
    | none => .bad)
noncomputable def aIface : TypeId → Operand → OpT := fun t x P _D E H => (match P.underlying t with
    | some d => match isIface d with
      | true => .bad
      | false => match ev E x with
        | some v => .val (.ifc t v) H
        | none => .bad
    | none => .bad)
noncomputable def aFunc : Fn → Array Operand → Array Operand → OpT := fun fn first cap _P _D E H => (match fn with
    | .func f => match evs E first.toList with
      | some a => match evs E cap.toList with
        | some c => .val (.fn f a c) H
        | none => .bad
      | none => .bad
    | _ => .bad)
noncomputable def aMakeSlice : TypeId → Operand → Operand → OpT := fun t l c P _ E H => mkR (opMk P E (.makeSlice t l c)) H
noncomputable def aMakeMap : TypeId → Option Operand → OpT := fun t r P _ E H => mkR (opMk P E (.makeMap t r)) H
noncomputable def aLookup : TypeId → Operand → Operand → Bool → OpT := fun t x ix ok P _ E H => (match ev E x with
    | some a => match ev E ix with
      | some b => val1 (lookupA P H t a b ok) H
      | none => .bad
    | none => .bad)
noncomputable def aMapUpdate : TypeId → Operand → Operand → Operand → OpT := fun t m k x P _ E H => (match ev E m with
    | some a => match ev E k with
      | some b => match ev E x with
        | some v => match mapUpdateA P H t a b v with
          | some H' => .val (.tup []) H'
          | none => .bad
        | none => .bad
      | none => .bad
    | none => .bad)
noncomputable def aSlice : TypeId → Operand → Option Operand → Option Operand → Option Operand → OpT := fun t x lo hi mx P _D E H => (match mx with
    | some m => match ev E x with
      | some a => match evo E lo with
        | some l => match evo E hi with
          | some h => match evo E (some m) with
            | some y => val1 (sliceN P t a l h y) H
            | none => .bad
          | none => .bad
        | none => .bad
      | none => .bad
    | none => match ev E x with
      | some a => match evo E lo with
        | some l => match evo E hi with
          | some h => val1 (sliceX P H t a l h) H
          | none => .bad
        | none => .bad
      | none => .bad)
noncomputable def aFieldAddr : TypeId → Operand → Nat → OpT := fun t x f P _ E H => (match ev E x with
    | some a => val1 (fieldAtA P t a f) H
    | none => .bad)
noncomputable def aField : TypeId → Operand → Nat → OpT := fun t x f P _ E H => (match ev E x with
    | some a => val1 (fieldA P t a f) H
    | none => .bad)
noncomputable def aIndexAddr : TypeId → Operand → Operand → OpT := fun t x ix P _ E H => (match ev E x with
    | some a => match ev E ix with
      | some b => val1 (indexAtA P t a b) H
      | none => .bad
    | none => .bad)
noncomputable def aIndex : TypeId → Operand → Operand → OpT := fun t x ix P _ E H => (match ev E x with
    | some a => match ev E ix with
      | some b => val1 (indexX P t a b) H
      | none => .bad
    | none => .bad)
noncomputable def aExtract : Operand → Nat → OpT := fun x i _ _ E H => (match ev E x with
    | some a => val1 (extractA a i) H
    | none => .bad)
noncomputable def aAssert : Operand → TypeId → TypeId → Bool → OpT := fun x _ t ok P _ E H => (match ev E x with
    | some a => val1 (assertA P a t ok) H
    | none => .bad)
noncomputable def aCall : Call → OpT := fun c P D E H => callA P D E H c
noncomputable def aDefer : Call → OpT := fun c P D E H => opA P D E H (.defer c)
noncomputable def aPanic : Operand → OpT := fun x P D E H => opA P D E H (.panic x)
end arms
noncomputable def opF (op : Op) : OpT :=
  Op.rec (motive := fun _ => OpT) aMove aMove aPick aAlloc aBox aBuild aBuildSlice (fun _ _ _ _ => aBad) aLoad aStore (fun _ => aBad) (fun _ => aBad) aNilCheck aBin aUn aConvert (fun _ _ => aBad) aIface aFunc aMakeMap (fun _ _ => aBad) aMakeSlice aSlice
    aFieldAddr aField aIndexAddr aIndex aLookup aMapUpdate (fun _ _ _ => aBad) (fun _ _ _ _ => aBad) (fun _ _ => aBad) (fun _ _ => aBad) (fun _ => aBad) aAssert aExtract aCall (fun _ => aBad) aDefer aPanic (fun _ _ => aBad) (fun _ _ _ => aBad) (fun _ _ => aBad) op
theorem opF_eq (P : Program) (D : Dec) (E : Tr AV) (H : Heap) (op : Op) : opF op P D E H = opA P D E H op := by
  cases op with
  | move x => simp only [opF, aMove, opA, val1F_eq, evF_eq]
  | assign x => simp only [opF, aMove, opA, val1F_eq, evF_eq]
  | binOp op t x y yt =>
    simp only [opF, aBin, aBin1, opA, evF_eq]
    cases ev E x with
    | none => rfl
    | some a =>
      simp only [aBin2]
      cases ev E y with
      | none => rfl
      | some b => simp only [val1F_eq, binF1_eq]
  | _ => rfl

/-! ### Many operations -/
/-- What a row of operations comes to: done; not gone on with. -/
inductive OpsR : Type where
  | done (E : Tr AV) (H : Heap)
  | stop (rest : List Oper) (E : Tr AV) (H : Heap)
abbrev OpsT := Tr AV → Heap → OpsR
noncomputable def opsVal (nt : Nat) (o : Oper) (rest : List Oper) (ih : OpsT) (E : Tr AV) (H : Heap) (v : AV) (H' : Heap) : OpsR :=
  Option.rec (motive := fun _ => OpsR) (ih E H') (fun d => Bool.rec (motive := fun _ => OpsR) (.stop (o :: rest) E H) (ih (E.put d (some v)) H') (Nat.ble (Nat.succ d) nt)) o.dst
noncomputable def opsGo (P : Program) (D : Dec) (nt : Nat) (o : Oper) (rest : List Oper) (ih : OpsT) (E : Tr AV) (H : Heap) : OpsR :=
  OpR.rec (motive := fun _ => OpsR) (opsVal nt o rest ih E H) (fun _ _ => .stop (o :: rest) E H) (fun _ _ => .stop (o :: rest) E H) (fun _ => .stop (o :: rest) E H) (.stop (o :: rest) E H) (fun _ => .stop (o :: rest) E H) (.stop (o :: rest) E H)
    (opF o.op P D E H)
noncomputable def guard3 (want : Bool) (v : Option AV) : Option Bool :=
  Option.rec (motive := fun _ => Option Bool) none (fun v => V1.rec (motive := fun _ => Option Bool) (fun _ _ => none) (fun b => some (Bool.rec (motive := fun _ => Bool) (not want) want b)) (fun _ _ => none) (some false) none (view1 v)) v
noncomputable def guard2 (want : Bool) (E : Tr AV) (oj : Option Oper) : Option Bool :=
  Option.rec (motive := fun _ => Option Bool) none (fun oj => Option.rec (motive := fun _ => Option Bool) none (fun d => guard3 want (E.get d)) oj.dst) oj
noncomputable def guardF (all : List Oper) (E : Tr AV) (g : Option (Nat × Bool)) : Option Bool :=
  Option.rec (motive := fun _ => Option Bool) (some true) (fun p => Prod.rec (motive := fun _ => Option Bool) (fun j want => guard2 want E (nth all j)) p) g
theorem guardF_eq (all : Array Oper) (E : Tr AV) (o : Oper) : guardF all.toList E o.guard = wantedA all E o := by
  unfold guardF wantedA
  cases o.guard with
  | none => rfl
  | some p =>
    obtain ⟨j, want⟩ := p
    show guard2 want E (nth all.toList j) = _
    dsimp only
    cases nth all.toList j with
    | none => rfl
    | some oj =>
      show Option.rec (motive := fun _ => Option Bool) none (fun d => guard3 want (E.get d)) oj.dst = _
      dsimp only
      cases oj.dst with
      | none => rfl
      | some d =>
        show guard3 want (E.get d) = _
        dsimp only
        cases E.get d with
        | none => rfl
        | some v => cases v <;> rfl
noncomputable def opsCons (P : Program) (D : Dec) (nt : Nat) (all : List Oper) (o : Oper) (rest : List Oper) (ih : OpsT) (E : Tr AV) (H : Heap) : OpsR :=
  Option.rec (motive := fun _ => OpsR) (.stop (o :: rest) E H) (fun b => Bool.rec (motive := fun _ => OpsR) (opsVal nt o rest ih E H (.tup []) H) (opsGo P D nt o rest ih E H) b) (guardF all E o.guard)
noncomputable def opsF (P : Program) (D : Dec) (nt : Nat) (all : List Oper) (l : List Oper) : OpsT :=
  List.rec (motive := fun _ => OpsT) .done (fun o rest ih => opsCons P D nt all o rest ih) l

/-! ### The quick machine -/
structure FX : Type where
  fn : FuncId
  df : Bool
  ro : Option Nat
  nt : Nat
  dfs : List ADef
  cs : List AF
inductive FS : Type where
  | fast (x : FX) (E : Tr AV) (todo : List AItem) (H : Heap)
  | gen (m : AM)
inductive FR' : Type where
  | next (s : FS)
  | fin (r : Option (FuncId × Fin' × Heap))
noncomputable def amOf (x : FX) (E : Tr AV) (todo : List AItem) (H : Heap) : AM := ⟨⟨x.fn, x.df, x.ro, x.nt, E, todo, x.dfs, .run⟩, x.cs, H⟩
noncomputable def normR (fn : FuncId) (df : Bool) (ro : Option Nat) (nt : Nat) (E : Tr AV) (todo : List AItem) (dfs : List ADef) (mode : AMode) (cs : List AF) (H : Heap) : FS :=
  AMode.rec (motive := fun _ => FS) (.fast ⟨fn, df, ro, nt, dfs, cs⟩ E todo H) (.gen ⟨⟨fn, df, ro, nt, E, todo, dfs, .ret⟩, cs, H⟩) (fun c => .gen ⟨⟨fn, df, ro, nt, E, todo, dfs, .pan c⟩, cs, H⟩) mode
noncomputable def norm (m : AM) : FS :=
  AM.rec (motive := fun _ => FS) (fun fr cs H => AF.rec (motive := fun _ => List AF → Heap → FS) normR fr cs H) m
noncomputable def ofSR (r : SR) : FR' :=
  SR.rec (motive := fun _ => FR') (fun m => .next (norm m)) (fun fn f H => .fin (some (fn, f, H))) (fun v H => .fin (some (0, .ret v, H))) (.fin none) r
section
variable (P : Program) (D : Dec) (rg : Rg)
abbrev ItT := FX → Tr AV → List AItem → Heap → FR'
noncomputable def slowF : FX → Tr AV → List AItem → Heap → FR' := fun x E todo H => ofSR (astep P D rg (amOf x E todo H))
noncomputable def opsEnd (all : Array Oper) (x : FX) (k : List AItem) (r : OpsR) : FR' :=
  OpsR.rec (motive := fun _ => FR') (fun E H => .next (.fast x E k H)) (fun rest E H => slowF P D rg x E (.inOps all rest :: k) H) r
noncomputable def cSkip : ItT := fun x E k H => .next (.fast x E k H)
noncomputable def cRegion : Nat → Array Oper → Bool → ItT := fun id ops draw => Bool.rec (motive := fun _ => ItT)
  (fun x E k H => opsEnd P D rg ops x k (opsF P D x.nt ops.toList ops.toList E H)) (fun x E k H => slowF P D rg x E (.code (.region id ops true) :: k) H) draw
noncomputable def cSeq : Code → Code → (ItT) → ItT → ItT := fun a b _ _ x E k H => .next (.fast x E (.code a :: .code b :: k) H)
noncomputable def cond2 (a b : Code) (x : FX) (E : Tr AV) (k : List AItem) (H : Heap) (t : Bool) : FR' :=
  Bool.rec (motive := fun _ => FR') (.next (.fast x E (.code b :: k) H)) (.next (.fast x E (.code a :: k) H)) t
noncomputable def cond1 (a b : Code) (x : FX) (E : Tr AV) (k : List AItem) (H : Heap) (v : AV) : FR' :=
  match v with
  | .bool t => cond2 a b x E k H t
  | _ => .fin none
noncomputable def cCond : Operand → Code → Code → ItT → ItT → ItT := fun c a b _ _ x E k H => Option.rec (motive := fun _ => FR') (.fin none) (cond1 a b x E k H) (ev E c)
noncomputable def cBlock : Nat → Code → ItT → ItT := fun id b _ x E k H => .next (.fast x E (.code b :: .inBlock id :: k) H)
noncomputable def cLoop : Code → ItT → ItT := fun b _ x E k H => .next (.fast x E (.code b :: .inLoop b :: k) H)
noncomputable def cRange : Operand → Array Tmp → Code → Code → ItT → ItT → ItT := fun f ps a b _ _ x E k H => slowF P D rg x E (.code (.rangeFunc f ps a b) :: k) H
noncomputable def cExit : Nat → ItT := fun id x E k H => Option.rec (motive := fun _ => FR') (slowF P D rg x E (.code (.exit id) :: k) H) (fun k' => .next (.fast x E k' H)) (exitToA id k)
noncomputable def cScope : Code → ItT → ItT := fun b _ x E k H => .next (.fast x E (.code b :: .inScope b :: k) H)
noncomputable def cLabel : Nat → ItT := fun _ x E k H => .next (.fast x E k H)
noncomputable def cGoto : Nat → ItT := fun l x E k H => Option.rec (motive := fun _ => FR') (.fin none) (fun k' => .next (.fast x E k' H)) (gotoA l k)
noncomputable def cRet : ItT := fun x E k H => slowF P D rg x E (.code .ret :: k) H
noncomputable def cRefuse : String → ItT := fun _ _ _ _ _ => .fin none
noncomputable def codeF (c : Code) : ItT :=
  Code.rec (motive := fun _ => ItT) cSkip (cRegion P D rg) cSeq cCond cBlock cLoop (cRange P D rg) (cExit P D rg) cScope cLabel cGoto (cRet P D rg) cRefuse c
noncomputable def iInBlock : Nat → ItT := fun _ x E k H => .next (.fast x E k H)
noncomputable def iInLoop : Code → ItT := fun b x E k H => .next (.fast x E (.code b :: .inLoop b :: k) H)
noncomputable def iInScope : Code → ItT := fun _ x E k H => .next (.fast x E k H)
noncomputable def iInOps : Array Oper → List Oper → ItT := fun all rest x E k H => opsEnd P D rg all x k (opsF P D x.nt all.toList rest E H)
noncomputable def iInRF : Nat → ItT := fun l x E k H => slowF P D rg x E (.inRF l :: k) H
noncomputable def iEndRF : Nat → ItT := fun l x E k H => slowF P D rg x E (.endRF l :: k) H
noncomputable def iBegin : ItT := fun x E k H => slowF P D rg x E (.beginRound :: k) H
noncomputable def itemF (it : AItem) : ItT :=
  AItem.rec (motive := fun _ => ItT) (codeF P D rg) iInBlock iInLoop iInScope (iInOps P D rg) (iInRF P D rg) (iEndRF P D rg) (iBegin P D rg) it
noncomputable def todoF (todo : List AItem) : FX → Tr AV → Heap → FR' :=
  List.rec (motive := fun _ => FX → Tr AV → Heap → FR') (fun x E H => slowF P D rg x E [] H) (fun it k _ x E H => itemF P D rg it x E k H) todo
noncomputable def stepFS (s : FS) : FR' :=
  FS.rec (motive := fun _ => FR') (fun x E todo H => todoF P D rg todo x E H) (fun m => ofSR (astep P D rg m)) s
end
noncomputable def loopK (P : Program) (D : Dec) (ih : FS → Option (FuncId × Fin' × Heap)) (s : FS) : Option (FuncId × Fin' × Heap) :=
  FR'.rec (motive := fun _ => Option (FuncId × Fin' × Heap)) (fun s' => ih s') (fun r => r) (stepFS P D (drawA P D (fun m => ih (norm m))) s)
noncomputable def runFS (P : Program) (D : Dec) (n : Nat) : FS → Option (FuncId × Fin' × Heap) :=
  Nat.rec (motive := fun _ => FS → Option (FuncId × Fin' × Heap)) (fun _ => none) (fun _ ih s => loopK P D ih s) n
noncomputable def runF (P : Program) (D : Dec) (n : Nat) : Rec := fun m => runFS P D n (norm m)
end Vx
