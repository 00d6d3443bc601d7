/-
  One operation.
-/
import Derived.Test.YtmgejgbomglegaaGreatDoorVxW
namespace Vx
open Go

/-- A call that is deferred. -/
inductive ADef : Type where
  | coll (k : Nat)
  | fn (f : FuncId) (args captured : List AV)
inductive DR (μ : Mu) (ρ : Nat → Int) : ADef → Deferred → Prop
  | coll {k b n : Nat} (h : μ k = some (b, n)) : DR μ ρ (.coll k) { target := .collected b, args := #[] }
  | fn {f : FuncId} {args captured : List AV} {args' captured' : List Value} (h1 : VRs μ ρ args args') (h2 : VRs μ ρ captured captured') : DR μ ρ (.fn f args captured) { target := .fn (.func f) captured'.toArray, args := args'.toArray }
inductive OpR : Type where
  | val (v : AV) (H : Heap)
  | call (f : FuncId) (args : List AV)
  | yield (k : Nat) (args : List AV)
  | dfr (d : ADef)
  | recov
  | pan (v : AV)
  | bad

def OpOK (P : Program) (G : Gd) (μ : Mu) (ρ : Nat → Int) (s : Sem Next) (w : World) : OpR → Prop
  | .val v H' => ∃ nx v' w' μ', s.run P w = .ok nx w' ∧ ((nx = .value v') ∨ (nx = .skip ∧ v' = undef)) ∧ Mu.le μ μ' ∧ VR μ' ρ v v' ∧ GR G μ' ρ H' w' ∧ Fr G w w'
  | .call f args => ∃ args' : List Value, s.run P w = .ok (.enter f args'.toArray) w ∧ VRs μ ρ args args'
  | .yield k args => ∃ (b n : Nat) (args' : List Value), μ k = some (b, n) ∧ s.run P w = (Instr.yield b args'.toArray).run P w ∧ VRs μ ρ args args'
  | .pan v => ∃ v', s.run P w = .halt (.panic v') w ∧ VR μ ρ v v'
  | .recov => s.run P w = .ok .recover w
  | .dfr d => ∃ d', s.run P w = .ok (.defer d') w ∧ DR μ ρ d d'
  | .bad => True

noncomputable def val1 (x : Option AV) (H : Heap) : OpR :=
  match x with
  | some v => .val v H
  | none => .bad
noncomputable def val2 (x : Option (AV × Heap)) : OpR :=
  match x with
  | some (v, H) => .val v H
  | none => .bad
noncomputable def evp (E : Tr AV) : List (Nat × Operand) → Option (List (Nat × AV))
  | [] => some []
  | (i, x) :: r => match ev E x with
    | none => none
    | some v => match evp E r with
      | none => none
      | some l => some ((i, v) :: l)
noncomputable def evo (E : Tr AV) (x : Option Operand) : Option (Option AV) :=
  match x with
  | none => some none
  | some x => match ev E x with
    | none => none
    | some v => some (some v)
noncomputable def isIface (d : TypeDesc) : Bool :=
  match d with
  | .interface _ => true
  | _ => false
noncomputable def bodied (P : Program) (f : FuncId) : Bool :=
  match P.funcs[f]? with
  | some fn => match fn.body with
    | some _ => true
    | none => false
  | none => false
noncomputable def assertA (P : Program) (x : AV) (t : TypeId) (ok : Bool) : Option AV :=
  match P.underlying t with
  | some d => match isIface d with
    | true => none
    | false => match x with
      | .ifc u v => match Nat.beq u t with
        | true => match ok with
          | true => some (.tup [v, .bool true])
          | false => some v
        | false => match ok with
          | true => match zeroA P t with
            | some z => some (.tup [z, .bool false])
            | none => none
          | false => none
      | _ => none
  | none => none
noncomputable def callA (P : Program) (D : Dec) (E : Tr AV) (H : Heap) (c : Call) : OpR :=
  match evs E c.args.toList with
  | none => .bad
  | some l => match c.callee with
    | .value f => match ev E f with
      | some (.fn g first cap) => match bodied P g with
        | true => .call g (first ++ l ++ cap)
        | false => val2 (extA P D H g (first ++ l ++ cap))
      | some (.yld k) => .yield k l
      | _ => .bad
    | .builtin b => match b with
      | .len => match l with
        | [x] => match nth c.argTypes.toList 0 with
          | some t => val1 (lenX P t x) H
          | none => .bad
        | _ => .bad
      | .append => match l with
        | [x, y] => val2 (appendX P H c.argTypes.toList x y)
        | _ => .bad
      | .copy => match l with
        | [x, y] => val2 (copyA P H c.argTypes.toList x y)
        | _ => .bad
      | .max => match l with
        | [.int k x, .int _ y] => match cmpA D .gtr y x with
          | some true => .val (.int k y) H
          | some false => .val (.int k x) H
          | none => .bad
        | _ => .bad
      | .min => match l with
        | [.int k x, .int _ y] => match cmpA D .lss y x with
          | some true => .val (.int k y) H
          | some false => .val (.int k x) H
          | none => .bad
        | _ => .bad
      | .recover => .recov
      | .cap => match l with
        | [x] => match nth c.argTypes.toList 0 with
          | some t => val1 (capA P t x) H
          | none => .bad
        | _ => .bad
      | .unsafeSliceData => match l with
        | [x] => val1 (sliceDataA x) H
        | _ => .bad
      | .unsafeString => match l with
        | [x, y] => val2 (unsafeStrA P H c.argTypes.toList x y)
        | _ => .bad
      | _ => .bad
    | _ => .bad
noncomputable def isConstO (x : Operand) : Bool :=
  match x with
  | .const _ => true
  | _ => false
/-- Two nil values of an interface type, one of them written out as nil. -/
noncomputable def nilNil (P : Program) (op : BinOp) (t : TypeId) (y : Operand) (a b : AV) : Option AV :=
  match a with
  | .nili => match b with
    | .nili => match isConstO y with
      | true => match P.underlying t with
        | some (.interface _) => match op with
          | .eql => some (.bool true)
          | .neq => some (.bool false)
          | _ => none
        | _ => none
      | false => none
    | _ => none
  | _ => none
noncomputable def binB (P : Program) (D : Dec) (op : BinOp) (t : TypeId) (y : Operand) (a b : AV) : Option AV :=
  match binX P D op t a b with
  | some r => some r
  | none => nilNil P op t y a b
/-- The operations that make one block. -/
noncomputable def opMk (P : Program) (E : Tr AV) (op : Op) : Option Mk :=
  match op with
  | .alloc t => match zeroA P t with
    | some z => some (newM t z)
    | none => none
  | .box t x => match ev E x with
    | some v => some (newM t v)
    | none => none
  | .buildSlice t len parts => match evp E parts.toList with
    | some ps => buildSliceM P t len ps
    | none => none
  | .makeSlice t l c => match ev E l with
    | some a => match ev E c with
      | some b => makeM P t a b
      | none => none
    | none => none
  | .makeMap _ r => match r with
    | none => some makeMapM
    | some _ => none
  | _ => none
noncomputable def mkR (m : Option Mk) (H : Heap) : OpR :=
  match m with
  | some m => .val (m.2 H.next) (H.add m.1)
  | none => .bad
noncomputable def opA (P : Program) (D : Dec) (E : Tr AV) (H : Heap) (op : Op) : OpR :=
  match op with
  | .move x => val1 (ev E x) H
  | .assign x => val1 (ev E x) H
  | .pick c a b => match ev E c with
    | some (.bool t) => match t with
      | true => val1 (ev E a) H
      | false => val1 (ev E b) H
    | _ => .bad
  | .alloc t => mkR (opMk P E (.alloc t)) H
  | .box t x => mkR (opMk P E (.box t x)) H
  | .build t parts => match evp E parts.toList with
    | some ps => match builtA P t ps with
      | some r => .val (.agg r) H
      | none => .bad
    | none => .bad
  | .buildSlice t len parts => mkR (opMk P E (.buildSlice t len parts)) H
  | .load t x => match ev E x with
    | some a => val1 (loadA P H t a) H
    | none => .bad
  | .store t x y => match ev E x with
    | some a => match ev E y with
      | some v => match storeA P H t a v with
        | some H' => .val (.tup []) H'
        | none => .bad
      | none => .bad
    | none => .bad
  | .nilCheck x => match ev E x with
    | some (.ptr k o) => .val (.ptr k o) H
    | some (.fn f a c) => .val (.fn f a c) H
    | some (.yld k) => .val (.yld k) H
    | _ => .bad
  | .binOp op t x y _ => match ev E x with
    | some a => match ev E y with
      | some b => val1 (binB P D op t y a b) H
      | none => .bad
    | none => .bad
  | .unOp op _ x => match op with
    | .not => match ev E x with
      | some (.bool b) => .val (.bool (not b)) H
      | _ => .bad
    | .neg => match ev E x with
      | some (.int k e) => .val (.int k (arith D .sub k (.lit 0) e)) H
      | _ => .bad
    | _ => .bad
  | .convert src dst x => match ev E x with
    | some a => val1 (convX P H src dst a) H
    | none => .bad
  | .makeInterface t x => match P.underlying t with
    | some d => match isIface d with
      | true => .bad
      | false => match ev E x with
        | some v => .val (.ifc t v) H
        | none => .bad
    | none => .bad
  | .makeFunc fn first cap => match fn with
    | .func f => match evs E first.toList with
      | some a => match evs E cap.toList with
        | some c => .val (.fn f a c) H
        | none => .bad
      | none => .bad
    | _ => .bad
  | .makeSlice t l c => mkR (opMk P E (.makeSlice t l c)) H
  | .makeMap t r => mkR (opMk P E (.makeMap t r)) H
  | .lookup t x ix ok => match ev E x with
    | some a => match ev E ix with
      | some b => val1 (lookupA P H t a b ok) H
      | none => .bad
    | none => .bad
  | .mapUpdate t m k x => match ev E m with
    | some a => match ev E k with
      | some b => match ev E x with
        | some v => match mapUpdateA P H t a b v with
          | some H' => .val (.tup []) H'
          | none => .bad
        | none => .bad
      | none => .bad
    | none => .bad
  | .slice t x lo hi mx => match mx with
    | some m => match ev E x with
      | some a => match evo E lo with
        | some l => match evo E hi with
          | some h => match evo E (some m) with
            | some y => val1 (sliceN P t a l h y) H
            | none => .bad
          | none => .bad
        | none => .bad
      | none => .bad
    | none => match ev E x with
      | some a => match evo E lo with
        | some l => match evo E hi with
          | some h => val1 (sliceX P H t a l h) H
          | none => .bad
        | none => .bad
      | none => .bad
  | .fieldAddr t x f => match ev E x with
    | some a => val1 (fieldAtA P t a f) H
    | none => .bad
  | .field t x f => match ev E x with
    | some a => val1 (fieldA P t a f) H
    | none => .bad
  | .indexAddr t x ix => match ev E x with
    | some a => match ev E ix with
      | some b => val1 (indexAtA P t a b) H
      | none => .bad
    | none => .bad
  | .index t x ix => match ev E x with
    | some a => match ev E ix with
      | some b => val1 (indexX P t a b) H
      | none => .bad
    | none => .bad
  | .extract x i => match ev E x with
    | some a => val1 (extractA a i) H
    | none => .bad
  | .typeAssert x _ t ok => match ev E x with
    | some a => val1 (assertA P a t ok) H
    | none => .bad
  | .call c => callA P D E H c
  | .defer c => match evs E c.args.toList with
    | none => .bad
    | some l => match c.callee with
      | .value f => match ev E f with
        | some (.fn g first cap) => .dfr (.fn g (first ++ l) cap)
        | _ => .bad
      | _ => .bad
  | .panic x => match ev E x with
    | some (.ifc t v) => .pan (.ifc t v)
    | _ => .bad
  | _ => .bad

section
variable {P : Program} {G : Gd} {μ : Mu} {ρ : Nat → Int} {H : Heap} {w : World} {nt : Nat} {E : Tr AV} {a : Act}
theorem evp_ok (hE : ER μ ρ nt E a.tmps) : ∀ {ps : List (Nat × Operand)} {l : List (Nat × AV)}, evp E ps = some l → PRs μ ρ l (ps.map fun (i, x) => (i, a.eval x))
  | [], l, h => by simp [evp] at h; subst h; exact .nil
  | (i, x) :: r, l, h => by
    simp only [evp] at h
    cases e1 : ev E x with
    | none => simp [e1] at h
    | some v =>
      cases e2 : evp E r with
      | none => simp [e1, e2] at h
      | some l2 =>
        simp only [e1, e2, Option.some.injEq] at h
        subst h
        exact .cons (ev_ok hE e1) (evp_ok hE e2)
theorem evo_ok (hE : ER μ ρ nt E a.tmps) {x : Option Operand} {l : Option AV} (h : evo E x = some l) : ORel μ ρ l (x.map a.eval) := by
  unfold evo at h
  split at h
  · cases h; exact .none
  · split at h
    · cases h
    · rename_i e; cases h; exact .some (ev_ok hE e)

theorem OpOK.of_val {s : Sem Value} {v : AV} {H' : Heap} (h : ValOK P G μ ρ s w v H') : OpOK P G μ ρ (do pure (.value (← s))) w (.val v H') := by
  obtain ⟨v', w', μ', h1, h2, h3, h4, h5⟩ := h
  exact ⟨.value v', v', w', μ', by simp [h1], .inl rfl, h2, h3, h4, h5⟩
theorem OpOK.pure1 (hG : GR G μ ρ H w) {s : Sem Next} {v : AV} {v' : Value} (h : s.run P w = .ok (.value v') w) (hv : VR μ ρ v v') : OpOK P G μ ρ s w (.val v H) :=
  ⟨.value v', v', w, μ, h, .inl rfl, Mu.le_refl _, hv, hG, Fr.refl _ _⟩
theorem OpOK.val1' {s : Sem Value} {x : Option AV} (h : ∀ v, x = some v → ValOK P G μ ρ s w v H) : OpOK P G μ ρ (do pure (.value (← s))) w (val1 x H) := by
  cases x with
  | none => trivial
  | some v => exact OpOK.of_val (h v rfl)
theorem OpOK.val2' {s : Sem Value} {x : Option (AV × Heap)} (h : ∀ v H', x = some (v, H') → ValOK P G μ ρ s w v H') : OpOK P G μ ρ (do pure (.value (← s))) w (val2 x) := by
  cases x with
  | none => trivial
  | some p => obtain ⟨v, H'⟩ := p; exact OpOK.of_val (h v H' rfl)

theorem assert_ok (hG : GR G μ ρ H w) {x v : AV} {x' : Value} {t t0 : TypeId} {ok : Bool} (hx : VR μ ρ x x') (h : assertA P x t ok = some v) : ValOK P G μ ρ (Instr.typeAssert x' t0 t ok) w v H := by
  unfold assertA at h
  split at h
  · rename_i d hu
    split at h
    · cases h
    · rename_i hif
      have hif' : ∀ ms, d ≠ .interface ms := fun ms e => by subst e; simp [isIface] at hif
      split at h
      · rename_i u y
        cases hx with
        | ifc hv =>
        split at h
        · rename_i hut
          have hut := Nat.eq_of_beq_eq_true hut
          subst hut
          split at h <;> cases h
          · refine ValOK.pure hG (v' := .tuple #[_, .bool true]) ?_ (.tup (l' := [_, .bool true]) (.cons hv (.cons .bool .nil)))
            unfold Instr.typeAssert
            rw [Sem.run_bind, run_und hu]
            cases d <;> first | (exact absurd rfl (hif' _)) | simp
          · refine ValOK.pure hG ?_ hv
            unfold Instr.typeAssert
            rw [Sem.run_bind, run_und hu]
            cases d <;> first | (exact absurd rfl (hif' _)) | simp
        · rename_i hut
          have hut' : u ≠ t := fun e => by subst e; simp at hut
          split at h
          · cases hz : zeroA P t with
            | none => simp [hz] at h
            | some z =>
              simp only [hz, Option.some.injEq] at h
              subst h
              obtain ⟨i, z', hi, hz', hv'⟩ := zeroA_ok (μ := μ) (ρ := ρ) hz
              refine ValOK.pure hG (v' := .tuple #[z', .bool false]) ?_ (.tup (l' := [z', .bool false]) (.cons hv' (.cons .bool .nil)))
              unfold Instr.typeAssert
              rw [Sem.run_bind, run_und hu]
              cases d <;> first | (exact absurd rfl (hif' _)) | simp [hut', run_zero hi hz']
          · cases h
      · cases h
  · cases h
/-- No function is the one whose call is no call. -/
def NoNG (P : Program) : Prop := ∀ (f : FuncId) (fn : Func), P.funcs[f]? = some fn → (fn.name == "runtime.NumGoroutine") = false
theorem callFunc_ok (hN : NoNG P) {f : FuncId} (h : bodied P f = true) (args : Array Value) (w : World) : (callFunc f args).run P w = .ok (.enter f args) w := by
  unfold bodied at h
  split at h
  · rename_i fn hf
    split at h
    · rename_i c hc
      have hne : ¬ fn.name = "runtime.NumGoroutine" := by simpa using hN f fn hf
      simp [callFunc, hf, hne, hc]
    · cases h
  · cases h

theorem max2_ok (_hG : GR G μ ρ H w) {D : Dec} (hD : D.OK P ρ) {k k' : IntKind} {x y : SE} {r : Bool} (h : cmpA D .gtr y x = some r) :
    (Builtin.max2 (.int k (x.val ρ)) (.int k' (y.val ρ))).run P w = .ok (.int k ((if r then y else x).val ρ)) w := by
  have hc := cmp_ok (P := P) (w := w) hD h
  have hc' : decide (y.val ρ > x.val ρ) = r := by simpa [Op.intCmp] using hc
  cases r with
  | true => have := of_decide_eq_true hc'; simp [Builtin.max2, this]
  | false => have := of_decide_eq_false hc'; simp [Builtin.max2, this]
theorem min2_ok (_hG : GR G μ ρ H w) {D : Dec} (hD : D.OK P ρ) {k k' : IntKind} {x y : SE} {r : Bool} (h : cmpA D .lss y x = some r) :
    (Builtin.min2 (.int k (x.val ρ)) (.int k' (y.val ρ))).run P w = .ok (.int k ((if r then y else x).val ρ)) w := by
  have hc := cmp_ok (P := P) (w := w) hD h
  have hc' : decide (y.val ρ < x.val ρ) = r := by simpa [Op.intCmp] using hc
  cases r with
  | true => have := of_decide_eq_true hc'; simp [Builtin.min2, this]
  | false => have := of_decide_eq_false hc'; simp [Builtin.min2, this]
theorem call_ok (hG : GR G μ ρ H w) (hE : ER μ ρ nt E a.tmps) {D : Dec} (hD : D.OK P ρ) (hN : NoNG P) (c : Call) (ty : TypeId) : OpOK P G μ ρ (do let d ← resolve a.eval c ty; invoke d.target d.args) w (callA P D E H c) := by
  obtain ⟨callee, cargs, ats⟩ := c
  unfold callA
  dsimp only
  split
  · trivial
  · rename_i l hl
    have hargs := evs_ok hE hl
    have hmap : (cargs.map a.eval).toList = cargs.toList.map a.eval := by simp
    obtain ⟨vs, hvs⟩ : ∃ vs, vs = cargs.toList.map a.eval := ⟨_, rfl⟩
    rw [← hvs] at hargs
    have hmap' : cargs.map a.eval = vs.toArray := by apply Array.toList_inj.1; rw [hmap, hvs]
    split
    · rename_i f
      split
      · rename_i g first cap hf
        have hv := ev_ok hE hf
        split
        · rename_i hb
          generalize hfv : a.eval f = fv at hv
          cases hv with
          | @fn _ _ _ first' cap' h1 h2 =>
          refine ⟨first' ++ vs ++ cap', ?_, (h1.append hargs).append h2⟩
          simp only [resolve, hfv, hmap', Deferred.ofValue, Sem.run_bind, Sem.run_pure, Result.andThen_ok, invoke]
          rw [callFunc_ok hN hb]
          simp
        · generalize hfv : a.eval f = fv at hv
          cases hv with
          | @fn _ _ _ first' cap' h1 h2 =>
          cases he : extA P D H g (first ++ l ++ cap) with
          | none => trivial
          | some p =>
            obtain ⟨v, H'⟩ := p
            obtain ⟨v', w', μ', r1, r2, r3, r4, r5⟩ := ext_ok hG hD ((h1.append hargs).append h2) he
            refine ⟨.value v', v', w', μ', ?_, .inl rfl, r2, r3, r4, r5⟩
            simp only [resolve, hfv, hmap', Deferred.ofValue, Sem.run_bind, Sem.run_pure, Result.andThen_ok, invoke]
            simpa using r1
      · rename_i k hf
        have hv := ev_ok hE hf
        generalize hfv : a.eval f = fv at hv
        cases hv with
        | @yld _ b n hb =>
        refine ⟨b, n, vs, hb, ?_, hargs⟩
        simp only [resolve, hfv, hmap', Deferred.ofValue, Sem.run_bind, Sem.run_pure, Result.andThen_ok, invoke]
        simp
      · trivial
    · rename_i b
      have hres : ∀ (s : Array Value → Sem Next), (∀ args, builtin b ats ty (cargs.map fun | .const _ => true | _ => false) args = s args) →
          (do let d ← resolve a.eval { callee := .builtin b, args := cargs, argTypes := ats } ty; invoke d.target d.args) = s vs.toArray := fun s hs => by
        simp only [resolve, hmap', pure_bind, invoke]
        exact hs _
      split
      · rw [hres (fun args => do pure (.value (← Builtin.len_ ats ty args))) (fun _ => rfl)]
        split
        · cases hargs with
          | cons h1 h2 =>
          cases h2
          split
          · rename_i t ht
            rw [nth_eq] at ht
            exact OpOK.val1' fun v hv => lenX_ok hG (by simpa using ht) h1 hv
          · trivial
        · trivial
      · rw [hres (fun args => do pure (.value (← Builtin.append_ ats ty args))) (fun _ => rfl)]
        split
        · cases hargs with
          | cons h1 h2 =>
          cases h2 with
          | cons h2 h3 =>
          cases h3
          exact OpOK.val2' fun v H' hv => appendX_ok hG h1 h2 hv
        · trivial
      · rw [hres (fun args => do pure (.value (← Builtin.copy_ ats ty args))) (fun _ => rfl)]
        split
        · cases hargs with
          | cons h1 h2 =>
          cases h2 with
          | cons h2 h3 =>
          cases h3
          exact OpOK.val2' fun v H' hv => copy_ok hG h1 h2 hv
        · trivial
      · rw [hres (fun args => do pure (.value (← Builtin.max_ ats ty args))) (fun _ => rfl)]
        split
        · cases hargs with
          | cons h1 h2 =>
          cases h2 with
          | cons h2 h3 =>
          cases h3
          cases h1 with
          | int e1 => cases h2 with
            | int e2 =>
            subst e1; subst e2
            split
            · rename_i hc
              exact OpOK.pure1 hG (by simp [Builtin.max_, max2_ok (P := P) hG hD hc]) (.int rfl)
            · rename_i hc
              exact OpOK.pure1 hG (by simp [Builtin.max_, max2_ok (P := P) hG hD hc]) (.int rfl)
            · trivial
        · trivial
      · rw [hres (fun args => do pure (.value (← Builtin.min_ ats ty args))) (fun _ => rfl)]
        split
        · cases hargs with
          | cons h1 h2 =>
          cases h2 with
          | cons h2 h3 =>
          cases h3
          cases h1 with
          | int e1 => cases h2 with
            | int e2 =>
            subst e1; subst e2
            split
            · rename_i hc
              exact OpOK.pure1 hG (by simp [Builtin.min_, min2_ok (P := P) hG hD hc]) (.int rfl)
            · rename_i hc
              exact OpOK.pure1 hG (by simp [Builtin.min_, min2_ok (P := P) hG hD hc]) (.int rfl)
            · trivial
        · trivial
      · rw [hres (fun args => pure .recover) (fun _ => rfl)]
        rfl
      · rw [hres (fun args => do pure (.value (← Builtin.cap_ ats ty args))) (fun _ => rfl)]
        split
        · cases hargs with
          | cons h1 h2 =>
          cases h2
          split
          · rename_i t ht
            rw [nth_eq] at ht
            exact OpOK.val1' fun v hv => cap_ok hG (by simpa using ht) h1 hv
          · trivial
        · trivial
      · rw [hres (fun args => do pure (.value (← Builtin.unsafeSliceData_ ats ty args))) (fun _ => rfl)]
        split
        · cases hargs with
          | cons h1 h2 =>
          cases h2
          exact OpOK.val1' fun v hv => sliceData_ok hG h1 hv
        · trivial
      · rw [hres (fun args => do pure (.value (← Builtin.unsafeString_ ats ty args))) (fun _ => rfl)]
        split
        · cases hargs with
          | cons h1 h2 =>
          cases h2 with
          | cons h2 h3 =>
          cases h3
          exact OpOK.val2' fun v H' hv => unsafeStr_ok hG h1 h2 hv
        · trivial
      · trivial
    · trivial

theorem binB_ok (hG : GR G μ ρ H w) {D : Dec} (hD : D.OK P ρ) {op : BinOp} {t : TypeId} {x y : Operand} {u v : AV} {u' v' : Value} (ha : VR μ ρ u u') (hb : VR μ ρ v v') {r : AV} (h : binB P D op t y u v = some r) :
    ∃ r', (eqGuard op t x y u' v').run P w = .ok () w ∧ (binOp op t u' v').run P w = .ok r' w ∧ VR μ ρ r r' := by
  unfold binB at h
  split at h
  · rename_i r0 hr
    cases h
    exact binX_ok (P := P) hG hD ha hb hr
  · unfold nilNil at h
    split at h
    · split at h
      · cases ha; cases hb
        split at h
        · rename_i hc
          split at h
          · rename_i ms hu
            have hg : (eqGuard op t x y .nilIface .nilIface).run P w = .ok () w := by
              have hy : ∃ c, y = .const c := by
                unfold isConstO at hc
                split at hc
                · exact ⟨_, rfl⟩
                · cases hc
              obtain ⟨c, rfl⟩ := hy
              unfold eqGuard
              cases op <;> simp
            have he : (Op.equal t .nilIface .nilIface).run P w = .ok true w := by
              have : ∀ d, (Op.equalIn (d + 1) t .nilIface .nilIface).run P w = .ok true w := fun d => by simp [Op.equalIn, run_underlying hu]
              exact this 9999
            split at h <;> cases h
            · exact ⟨.bool true, hg, by simp [binOp, he], .bool⟩
            · exact ⟨.bool false, hg, by simp [binOp, he], .bool⟩
          · cases h
        · cases h
      · cases h
    · cases h
theorem mk_ok (hE : ER μ ρ nt E a.tmps) {o : Oper} {m : Mk} (h : opMk P E o.op = some m) : ∃ s : Sem Value, execOp a.eval o = (do pure (.value (← s))) ∧ MkOK P μ ρ s w m := by
  obtain ⟨dst, op, ty, pos, after, guard⟩ := o
  dsimp only at h
  have one : ∀ {x : Operand} {v : AV}, ev E x = some v → VR μ ρ v (a.eval x) := fun h => ev_ok hE h
  unfold opMk at h
  split at h
  · split at h
    · rename_i z hz; cases h; exact ⟨_, rfl, alloc_mk _ hz⟩
    · cases h
  · split at h
    · rename_i v hv; cases h; exact ⟨_, rfl, box_mk _ (one hv)⟩
    · cases h
  · split at h
    · rename_i ps hps
      refine ⟨_, rfl, buildSlice_mk ?_ h⟩
      simpa using evp_ok hE hps
    · cases h
  · split at h
    · rename_i u hu
      split at h
      · rename_i v hv; exact ⟨_, rfl, make_mk (one hu) (one hv) h⟩
      · cases h
    · cases h
  · split at h
    · cases h; exact ⟨_, rfl, makeMap_mk _⟩
    · cases h
  · cases h
theorem mkR_ok (hG : GR G μ ρ H w) (hE : ER μ ρ nt E a.tmps) (o : Oper) : OpOK P G μ ρ (execOp a.eval o) w (mkR (opMk P E o.op) H) := by
  cases h : opMk P E o.op with
  | none => trivial
  | some m =>
    obtain ⟨s, hs, hm⟩ := mk_ok (P := P) (w := w) hE h
    rw [hs]
    exact OpOK.of_val (hm.val hG)
theorem op_ok (hG : GR G μ ρ H w) (hE : ER μ ρ nt E a.tmps) {D : Dec} (hD : D.OK P ρ) (hN : NoNG P) (o : Oper) : OpOK P G μ ρ (execOp a.eval o) w (opA P D E H o.op) := by
  obtain ⟨dst, op, ty, pos, after, guard⟩ := o
  dsimp only
  have one : ∀ {x : Operand} {v : AV}, ev E x = some v → VR μ ρ v (a.eval x) := fun h => ev_ok hE h
  have single : ∀ x : Operand, OpOK P G μ ρ (pure (.value (a.eval x))) w (val1 (ev E x) H) := fun x => by
    cases hx : ev E x with
    | none => trivial
    | some v => exact OpOK.pure1 hG rfl (one hx)
  cases op with
  | move x => exact single x
  | assign x => exact single x
  | pick c x y =>
    simp only [opA]
    split
    · rename_i t ht
      have hv := one ht
      generalize hcv : a.eval c = cv at hv
      cases hv
      split
      · cases hx : ev E x with
        | none => trivial
        | some v => exact OpOK.pure1 hG (by simp [execOp, hcv, asBool]) (one hx)
      · cases hy : ev E y with
        | none => trivial
        | some v => exact OpOK.pure1 hG (by simp [execOp, hcv, asBool]) (one hy)
    · trivial
  | alloc t => exact mkR_ok hG hE _
  | box t x => exact mkR_ok hG hE _
  | build t parts =>
    simp only [opA]
    split
    · rename_i ps hps
      split
      · rename_i r hr
        refine OpOK.of_val (build_ok hG ?_ hr)
        simpa using evp_ok hE hps
      · trivial
    · trivial
  | buildSlice t len parts => exact mkR_ok hG hE _
  | load t x =>
    simp only [opA]
    split
    · rename_i v hv; exact OpOK.val1' fun u hu => loadA_ok hG (one hv) hu
    · trivial
  | store t x y =>
    simp only [opA]
    split
    · rename_i v hv
      split
      · rename_i u hu
        split
        · rename_i H' hst
          obtain ⟨w', q1, q2, q3⟩ := storeA_ok (P := P) hG (one hv) (one hu) hst
          exact ⟨.skip, undef, w', μ, by simp [execOp, q1], .inr ⟨rfl, rfl⟩, Mu.le_refl _, .tup (l' := []) .nil, q2, q3⟩
        · trivial
      · trivial
    · trivial
  | nilCheck x =>
    simp only [opA]
    split
    · rename_i k o hv
      have hv := one hv
      generalize hxv : a.eval x = xv at hv
      cases hv with
      | ptr hb => exact OpOK.pure1 hG (by simp [execOp, hxv]) (.ptr hb)
    · rename_i f1 f2 f3 hv
      have hv := one hv
      generalize hxv : a.eval x = xv at hv
      cases hv with
      | fn h1 h2 => exact OpOK.pure1 hG (by simp [execOp, hxv]) (.fn h1 h2)
    · rename_i k hv
      have hv := one hv
      generalize hxv : a.eval x = xv at hv
      cases hv with
      | yld hb => exact OpOK.pure1 hG (by simp [execOp, hxv]) (.yld hb)
    · trivial
  | binOp op t x y yt =>
    simp only [opA]
    split
    · rename_i u hu
      split
      · rename_i v hv
        cases hb : binB P D op t y u v with
        | none => trivial
        | some r =>
          obtain ⟨r', h0, h1, h2⟩ := binB_ok (P := P) (x := x) hG hD (one hu) (one hv) hb
          exact OpOK.pure1 hG (by simp [execOp, h0, h1]) h2
      · trivial
    · trivial
  | unOp op t x =>
    simp only [opA]
    split
    · split
      · rename_i b hv
        have hv := one hv
        generalize hxv : a.eval x = xv at hv
        cases hv
        exact OpOK.pure1 hG (by simp [execOp, hxv, Op.unary]) .bool
      · trivial
    · split
      · rename_i k e hv
        have hv := one hv
        generalize hxv : a.eval x = xv at hv
        cases hv with
        | int he =>
        subst he
        refine OpOK.pure1 hG ?_ (.int (arith_val hD _ _ _ _))
        simp [execOp, hxv, Op.unary, Op.intArith, binVal, SE.val]
      · trivial
    · trivial
  | convert src dst x =>
    simp only [opA]
    split
    · rename_i v hv; exact OpOK.val1' fun u hu => convX_ok hG (one hv) hu
    · trivial
  | makeInterface t x =>
    simp only [opA]
    split
    · rename_i d hd
      split
      · trivial
      · rename_i hif
        have hif' : ∀ ms, d ≠ .interface ms := fun ms e => by subst e; simp [isIface] at hif
        split
        · rename_i v hv
          refine OpOK.pure1 hG (v' := .iface t (a.eval x)) ?_ (.ifc (one hv))
          simp only [execOp, Sem.run_bind, Instr.makeInterface, run_und hd, Result.andThen_ok]
          cases d <;> first | (exact absurd rfl (hif' _)) | simp
        · trivial
    · trivial
  | makeFunc fn first cap =>
    simp only [opA]
    split
    · rename_i f
      split
      · rename_i l1 h1
        split
        · rename_i l2 h2
          have e1 := evs_ok hE h1
          have e2 := evs_ok hE h2
          refine OpOK.pure1 hG ?_ (.fn e1 e2)
          simp only [execOp, Instr.makeFunc, pure_bind, Sem.run_pure]
          rw [show first.map a.eval = (first.toList.map a.eval).toArray from by apply Array.toList_inj.1; simp, show cap.map a.eval = (cap.toList.map a.eval).toArray from by apply Array.toList_inj.1; simp]
        · trivial
      · trivial
    · trivial
  | makeSlice t l c => exact mkR_ok hG hE _
  | makeMap t r => exact mkR_ok hG hE _
  | lookup t x ix ok =>
    simp only [opA]
    split
    · rename_i u hu
      split
      · rename_i v hv; exact OpOK.val1' fun r hr => lookup_ok hG (one hu) (one hv) hr
      · trivial
    · trivial
  | mapUpdate t m k x =>
    simp only [opA]
    split
    · rename_i u hu
      split
      · rename_i v hv
        split
        · rename_i y hy
          split
          · rename_i H' hst
            obtain ⟨w', q1, q2, q3⟩ := mapUpdate_ok (P := P) hG (one hu) (one hv) (one hy) hst
            exact ⟨.skip, undef, w', μ, by simp [execOp, q1], .inr ⟨rfl, rfl⟩, Mu.le_refl _, .tup (l' := []) .nil, q2, q3⟩
          · trivial
        · trivial
      · trivial
    · trivial
  | slice t x lo hi mx =>
    simp only [opA]
    split
    · rename_i m
      split
      · rename_i u hu
        split
        · rename_i l hl
          split
          · rename_i h hh
            split
            · rename_i y hy; exact OpOK.val1' fun r hr => sliceN_ok hG (one hu) (evo_ok hE hl) (evo_ok hE hh) (evo_ok hE hy) hr
            · trivial
          · trivial
        · trivial
      · trivial
    · split
      · rename_i u hu
        split
        · rename_i l hl
          split
          · rename_i h hh; exact OpOK.val1' fun r hr => sliceX_ok hG (one hu) (evo_ok hE hl) (evo_ok hE hh) hr
          · trivial
        · trivial
      · trivial
  | fieldAddr t x f =>
    simp only [opA]
    split
    · rename_i u hu; exact OpOK.val1' fun r hr => fieldAt_ok hG (one hu) hr
    · trivial
  | field t x f =>
    simp only [opA]
    split
    · rename_i u hu; exact OpOK.val1' fun r hr => field_ok hG (one hu) hr
    · trivial
  | indexAddr t x ix =>
    simp only [opA]
    split
    · rename_i u hu
      split
      · rename_i v hv; exact OpOK.val1' fun r hr => indexAt_ok hG (one hu) (one hv) hr
      · trivial
    · trivial
  | index t x ix =>
    simp only [opA]
    split
    · rename_i u hu
      split
      · rename_i v hv; exact OpOK.val1' fun r hr => indexX_ok hG (one hu) (one hv) hr
      · trivial
    · trivial
  | extract x i =>
    simp only [opA]
    split
    · rename_i u hu; exact OpOK.val1' fun r hr => extract_ok hG (one hu) hr
    · trivial
  | typeAssert x t0 t ok =>
    simp only [opA]
    split
    · rename_i u hu; exact OpOK.val1' fun r hr => assert_ok hG (one hu) hr
    · trivial
  | call c => exact call_ok hG hE hD hN c ty
  | defer c =>
    obtain ⟨callee, cargs, ats⟩ := c
    simp only [opA]
    split
    · trivial
    · rename_i l hl
      have hargs := evs_ok hE hl
      split
      · rename_i f
        split
        · rename_i g first cap hf
          have hv := one hf
          generalize hfv : a.eval f = fv at hv
          cases hv with
          | @fn _ _ _ first' cap' h1 h2 =>
          refine ⟨_, ?_, .fn (h1.append hargs) h2⟩
          simp [execOp, resolve, hfv, Deferred.ofValue]
        · trivial
      · trivial
  | panic x =>
    simp only [opA]
    split
    · rename_i t v hv
      have hv := one hv
      generalize hxv : a.eval x = xv at hv
      cases hv with
      | ifc h => exact ⟨_, by simp [execOp, hxv, Instr.panic], .ifc h⟩
    · trivial
  | _ => trivial
end
end Vx
