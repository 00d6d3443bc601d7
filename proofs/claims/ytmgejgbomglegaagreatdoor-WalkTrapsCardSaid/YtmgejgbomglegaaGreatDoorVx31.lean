/-
  The quick machine: calls, returns, tests.
-/
import Derived.Test.YtmgejgbomglegaaGreatDoorVx30
namespace Vx
open Go
/-! ### The functions, in rows -/
noncomputable def ofListG {α : Type} : List α → Nat → Tr α → Tr α
  | [], _, t => t
  | v :: r, i, t => ofListG r (Nat.succ i) (t.put i (some v))
theorem get_ofListG {α : Type} : ∀ (l : List α) (i : Nat) (t : Tr α) (j : Nat), (ofListG l i t).get j = if i ≤ j ∧ j - i < l.length then l[j - i]? else t.get j
  | [], i, t, j => by simp [ofListG]
  | v :: r, i, t, j => by
    simp only [ofListG]
    rw [get_ofListG r (Nat.succ i)]
    by_cases h1 : i + 1 ≤ j ∧ j - (i + 1) < r.length
    · rw [if_pos h1, if_pos ⟨by omega, by simp; omega⟩]
      have : j - i = (j - (i + 1)) + 1 := by omega
      rw [this, List.getElem?_cons_succ]
    · rw [if_neg h1, Tr.get_put]
      by_cases h2 : j = i
      · subst h2; simp
      · rw [if_neg h2, if_neg (fun h => h1 ⟨by omega, by have := h.2; simp at this; omega⟩)]
noncomputable def fnTab (P : Program) : Tr Func := ofListG P.funcs.toList 0 .e
theorem fnTab_get (P : Program) (f : FuncId) : (fnTab P).get f = P.funcs[f]? := by
  unfold fnTab
  rw [get_ofListG]
  by_cases h : f < P.funcs.toList.length
  · rw [if_pos ⟨Nat.zero_le _, by simpa using h⟩]; simp
  · rw [if_neg (fun hc => h (by simpa using hc.2)), Tr.get_e, Array.getElem?_eq_none (by simpa using h)]
noncomputable def enterF (f : FuncId) (args : List AV) (df : Bool) (F : Option Func) : Option AF :=
  Option.rec (motive := fun _ => Option AF) none (fun F => Option.rec (motive := fun _ => Option AF) none (fun c => Bool.rec (motive := fun _ => Option AF) none (some ⟨f, df, none, F.ntmps, ofList args 0 .e, [.code c], [], .run⟩) (Nat.ble args.length F.ntmps)) F.body) F
noncomputable def enterT (P : Program) (f : FuncId) (args : List AV) (df : Bool) : Option AF := enterF f args df ((fnTab P).get f)
theorem enterT_eq (P : Program) (f : FuncId) (args : List AV) (df : Bool) : enterT P f args df = enterA P f args df := by
  unfold enterT enterA
  rw [fnTab_get]
  cases P.funcs[f]? with
  | none => rfl
  | some F =>
    show Option.rec (motive := fun _ => Option AF) none (fun c => Bool.rec (motive := fun _ => Option AF) none (some ⟨f, df, none, F.ntmps, ofList args 0 .e, [.code c], [], .run⟩) (Nat.ble args.length F.ntmps)) F.body = _
    dsimp only
    cases F.body with
    | none => rfl
    | some c =>
      dsimp only
      cases Nat.ble args.length F.ntmps <;> rfl
noncomputable def res1 (l : List AV) : AV :=
  match l with
  | [v] => v
  | l => .tup l
noncomputable def resultF (P : Program) (E : Tr AV) (H : Heap) (F : Option Func) : Option AV :=
  Option.rec (motive := fun _ => Option AV) none (fun F => Option.rec (motive := fun _ => Option AV) none (fun l => some (res1 l)) (resA P E H F.results.toList)) F
noncomputable def resultT (P : Program) (f : FuncId) (E : Tr AV) (H : Heap) : Option AV := resultF P E H ((fnTab P).get f)
theorem resultT_eq (P : Program) (f : FuncId) (E : Tr AV) (H : Heap) : resultT P f E H = resultA P f E H := by
  unfold resultT resultA
  rw [fnTab_get]
  cases P.funcs[f]? with
  | none => rfl
  | some F =>
    show Option.rec (motive := fun _ => Option AV) none (fun l => some (res1 l)) (resA P E H F.results.toList) = _
    dsimp only
    cases resA P E H F.results.toList with
    | none => rfl
    | some l =>
      show some (res1 l) = _
      unfold res1
      match l with
      | [] => rfl
      | [_] => rfl
      | _ :: _ :: _ => rfl
section
variable (P : Program) (D : Dec) (rg : Rg)
/-! ### Calls -/
noncomputable def callerA (x : FX) (all : Array Oper) (l : List Oper) (k : List AItem) (E : Tr AV) : AF := ⟨x.fn, x.df, x.ro, x.nt, E, .inOps all l :: k, x.dfs, .run⟩
noncomputable def pushQ (x : FX) (all : Array Oper) (l : List Oper) (k : List AItem) (E : Tr AV) (H : Heap) (g : AF) : FR' :=
  AF.rec (motive := fun _ => FR') (fun fn df ro nt E' todo dfs mode => .next (normR fn df ro nt E' todo dfs mode (callerA x all l k E :: x.cs) H)) g
noncomputable def enterQ (x : FX) (all : Array Oper) (l : List Oper) (k : List AItem) (E : Tr AV) (H : Heap) (g : Option AF) : FR' :=
  Option.rec (motive := fun _ => FR') (.fin none) (pushQ x all l k E H) g
noncomputable def hpQ (x : FX) (all : Array Oper) (l : List Oper) (k : List AItem) (E : Tr AV) (H : Heap) (f : FuncId) (args : List AV) (p : Option (AV × Heap)) : FR' :=
  Option.rec (motive := fun _ => FR') (enterQ x all l k E H (enterT P f args false)) (fun _ => slowF P D rg x E (.inOps all l :: k) H) p
noncomputable def plugQ (x : FX) (all : Array Oper) (l : List Oper) (k : List AItem) (E : Tr AV) (H : Heap) (f : FuncId) (args : List AV) (p : Option AV) : FR' :=
  Option.rec (motive := fun _ => FR') (hpQ P D rg x all l k E H f args (D.hp f args H)) (fun _ => slowF P D rg x E (.inOps all l :: k) H) p
noncomputable def callQ (x : FX) (all : Array Oper) (l : List Oper) (k : List AItem) (E : Tr AV) (H : Heap) (r : OpR) : FR' :=
  OpR.rec (motive := fun _ => FR') (fun _ _ => slowF P D rg x E (.inOps all l :: k) H) (fun f args => plugQ P D rg x all l k E H f args (plugA D f args)) (fun _ _ => slowF P D rg x E (.inOps all l :: k) H) (fun _ => slowF P D rg x E (.inOps all l :: k) H)
    (slowF P D rg x E (.inOps all l :: k) H) (fun _ => slowF P D rg x E (.inOps all l :: k) H) (slowF P D rg x E (.inOps all l :: k) H) r
noncomputable def wantQ (x : FX) (all : Array Oper) (l : List Oper) (k : List AItem) (E : Tr AV) (H : Heap) (op : Op) (b : Option Bool) : FR' :=
  Option.rec (motive := fun _ => FR') (slowF P D rg x E (.inOps all l :: k) H) (fun b => Bool.rec (motive := fun _ => FR') (slowF P D rg x E (.inOps all l :: k) H) (callQ P D rg x all l k E H (opF op P D E H)) b) b
noncomputable def stopQ (x : FX) (all : Array Oper) (k : List AItem) (l : List Oper) (E : Tr AV) (H : Heap) : FR' :=
  List.rec (motive := fun _ => FR') (slowF P D rg x E (.inOps all l :: k) H) (fun o _ _ => wantQ P D rg x all l k E H o.op (guardF all.toList E o.guard)) l
noncomputable def opsEndQ (all : Array Oper) (x : FX) (k : List AItem) (r : OpsR) : FR' :=
  OpsR.rec (motive := fun _ => FR') (fun E H => .next (.fast x E k H)) (fun l E H => stopQ P D rg x all k l E H) r
theorem stopQ_eq (x : FX) (all : Array Oper) (k : List AItem) (l : List Oper) (E : Tr AV) (H : Heap) : stopQ P D rg x all k l E H = slowF P D rg x E (.inOps all l :: k) H := by
  cases l with
  | nil => rfl
  | cons o rest =>
    show wantQ P D rg x all (o :: rest) k E H o.op (guardF all.toList E o.guard) = _
    rw [guardF_eq]
    cases hw : wantedA all E o with
    | none => rfl
    | some b =>
      cases b with
      | false => rfl
      | true =>
        show callQ P D rg x all (o :: rest) k E H (opF o.op P D E H) = _
        rw [opF_eq]
        cases ho : opA P D E H o.op with
        | call f args =>
          show plugQ P D rg x all (o :: rest) k E H f args (plugA D f args) = _
          cases hp : plugA D f args with
          | some v => rfl
          | none =>
            show hpQ P D rg x all (o :: rest) k E H f args (D.hp f args H) = _
            cases hq : D.hp f args H with
            | some v => rfl
            | none =>
              show enterQ x all (o :: rest) k E H (enterT P f args false) = ofSR (opStep P D x.fn x.df x.ro x.nt E all o rest k x.dfs x.cs H)
              unfold opStep
              rw [enterT_eq]
              simp only [hw, ho, hp, hq]
              cases enterA P f args false with
              | none => rfl
              | some g => cases g; rfl
        | _ => rfl
theorem opsEndQ_eq (all : Array Oper) (x : FX) (k : List AItem) (r : OpsR) : opsEndQ P D rg all x k r = opsEnd P D rg all x k r := by
  cases r with
  | done E H => rfl
  | stop l E H => exact stopQ_eq P D rg x all k l E H
/-! ### Returns -/
noncomputable def retQ (x : FX) (E : Tr AV) (k : List AItem) (H : Heap) : FR' :=
  FX.rec (motive := fun _ => FR') (fun fn df ro nt dfs cs => Option.rec (motive := fun _ => FR') (.next (.gen ⟨⟨fn, df, none, nt, E, k, dfs, .ret⟩, cs, H⟩)) (fun _ => slowF P D rg ⟨fn, df, ro, nt, dfs, cs⟩ E (.code .ret :: k) H) ro) x
theorem retQ_eq (x : FX) (E : Tr AV) (k : List AItem) (H : Heap) : retQ P D rg x E k H = slowF P D rg x E (.code .ret :: k) H := by
  obtain ⟨fn, df, ro, nt, dfs, cs⟩ := x
  cases ro <;> rfl
noncomputable def putQ (x : FX) (all : Array Oper) (rest : List Oper) (k : List AItem) (E : Tr AV) (H : Heap) (v : AV) (w : CW) : FR' :=
  CW.rec (motive := fun _ => FR') (.next (.fast x E (.inOps all rest :: k) H)) (fun p => .next (.fast x (p E v) (.inOps all rest :: k) H)) (.fin none) w
noncomputable def fOps (x : FX) (k : List AItem) (E : Tr AV) (H : Heap) (v : AV) (all : Array Oper) (l : List Oper) : FR' :=
  List.rec (motive := fun _ => FR') (.fin none) (fun o rest _ => putQ x all rest k E H v (mkCW x.nt o.dst)) l
noncomputable def fItem (x : FX) (k : List AItem) (E : Tr AV) (H : Heap) (v : AV) (it : AItem) : FR' :=
  AItem.rec (motive := fun _ => FR') (fun _ => .fin none) (fun _ => .fin none) (fun _ => .fin none) (fun _ => .fin none) (fOps x k E H v) (fun l => .next (.fast x E (.endRF l :: k) H)) (fun _ => .fin none) (.fin none) it
noncomputable def fRun (x : FX) (todo : List AItem) (E : Tr AV) (H : Heap) (v : AV) : FR' :=
  List.rec (motive := fun _ => FR') (.fin none) (fun it k _ => fItem x k E H v it) todo
noncomputable def finQ (c : AF) (v : AV) (cs : List AF) (H : Heap) : FR' :=
  AF.rec (motive := fun _ => FR') (fun fn df ro nt E todo dfs mode => AMode.rec (motive := fun _ => FR') (fRun ⟨fn, df, ro, nt, dfs, cs⟩ todo E H v) (.fin none) (fun _ => .fin none) mode) c
theorem finQ_eq (c : AF) (v : AV) (cs : List AF) (H : Heap) : finQ c v cs H = (match finishA c v with
    | some c' => .next (norm ⟨c', cs, H⟩)
    | none => .fin none) := by
  obtain ⟨fn, df, ro, nt, E, todo, dfs, mode⟩ := c
  unfold finishA
  cases mode with
  | run =>
    show fRun ⟨fn, df, ro, nt, dfs, cs⟩ todo E H v = _
    cases todo with
    | nil => rfl
    | cons it k =>
      cases it with
      | inOps all l =>
        cases l with
        | nil => rfl
        | cons o rest =>
          show putQ ⟨fn, df, ro, nt, dfs, cs⟩ all rest k E H v (mkCW nt o.dst) = _
          unfold mkCW putA
          dsimp only
          cases o.dst with
          | none => rfl
          | some d =>
            dsimp only
            cases Nat.ble (Nat.succ d) nt with
            | false => rfl
            | true =>
              show FR'.next (.fast ⟨fn, df, ro, nt, dfs, cs⟩ ((mkPt d).p E v) (.inOps all rest :: k) H) = _
              rw [mkPt_eq]; rfl
      | _ => rfl
  | _ => rfl
noncomputable def outRet (_fn : FuncId) (_E : Tr AV) (H : Heap) (c : AF) (cs : List AF) (r : Option AV) : FR' :=
  Option.rec (motive := fun _ => FR') (.fin none) (fun v => finQ c v cs H) r
noncomputable def outGo (fn : FuncId) (df : Bool) (ro : Option Nat) (nt : Nat) (E : Tr AV) (todo : List AItem) (cs : List AF) (H : Heap) : FR' :=
  Bool.rec (motive := fun _ => FR') (List.rec (motive := fun _ => FR') (ofSR (astep P D rg ⟨⟨fn, df, ro, nt, E, todo, [], .ret⟩, cs, H⟩)) (fun c cs' _ => outRet fn E H c cs' (resultT P fn E H)) cs) (ofSR (astep P D rg ⟨⟨fn, df, ro, nt, E, todo, [], .ret⟩, cs, H⟩)) df
noncomputable def outM (fn : FuncId) (df : Bool) (ro : Option Nat) (nt : Nat) (E : Tr AV) (todo : List AItem) (dfs : List ADef) (mode : AMode) (cs : List AF) (H : Heap) : FR' :=
  AMode.rec (motive := fun _ => FR') (ofSR (astep P D rg ⟨⟨fn, df, ro, nt, E, todo, dfs, .run⟩, cs, H⟩)) (List.rec (motive := fun _ => FR') (outGo P D rg fn df ro nt E todo cs H) (fun d ds _ => ofSR (astep P D rg ⟨⟨fn, df, ro, nt, E, todo, d :: ds, .ret⟩, cs, H⟩)) dfs)
    (fun ch => ofSR (astep P D rg ⟨⟨fn, df, ro, nt, E, todo, dfs, .pan ch⟩, cs, H⟩)) mode
noncomputable def outQ (m : AM) : FR' :=
  AM.rec (motive := fun _ => FR') (fun fr cs H => AF.rec (motive := fun _ => FR') (fun fn df ro nt E todo dfs mode => outM P D rg fn df ro nt E todo dfs mode cs H) fr) m
theorem outQ_eq (m : AM) : outQ P D rg m = ofSR (astep P D rg m) := by
  obtain ⟨⟨fn, df, ro, nt, E, todo, dfs, mode⟩, cs, H⟩ := m
  cases mode with
  | ret =>
    cases dfs with
    | cons d ds => rfl
    | nil =>
      show outGo P D rg fn df ro nt E todo cs H = _
      cases df with
      | true => rfl
      | false =>
        cases cs with
        | nil => rfl
        | cons c cs' =>
          show outRet fn E H c cs' (resultT P fn E H) = ofSR (outStep P fn false ro nt E todo [] .ret (c :: cs') H)
          rw [resultT_eq]
          unfold outStep
          dsimp only
          cases resultA P fn E H with
          | none => rfl
          | some v =>
            show finQ c v cs' H = _
            rw [finQ_eq]
            dsimp only
            cases finishA c v <;> rfl
  | _ => rfl
end
end Vx
