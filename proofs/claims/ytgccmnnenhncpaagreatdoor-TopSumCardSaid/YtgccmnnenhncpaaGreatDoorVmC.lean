/-
  The evaluator: the operations together; the machine; what stands for what.
-/
import Derived.Test.YtgccmnnenhncpaaGreatDoorVmB
import Derived.RangeFuncIn
import Derived.RangeFuncLeaves
import Derived.Recover
/-! One operation. -/
namespace Vx
open Go

/-- A call that is deferred. -/
inductive ADef : Type where
  | coll (k : Nat)
  | fn (f : FuncId) (args captured : List AV)
inductive DR (μ : Mu) (ρ : Env) : ADef → Deferred → Prop
  | coll {k b n : Nat} (h : μ k = some (b, n)) : DR μ ρ (.coll k) { target := .collected b, args := #[] }
  | fn {f : FuncId} {args captured : List AV} {args' captured' : List Value} (h1 : VRs μ ρ args args') (h2 : VRs μ ρ captured captured') : DR μ ρ (.fn f args captured) { target := .fn (.func f) captured'.toArray, args := args'.toArray }
inductive OpR : Type where
  | val (v : AV) (H : Heap)
  | call (f : FuncId) (args : List AV)
  | yield (k : Nat) (args : List AV)
  | dfr (d : ADef)
  | recov
  | pan (v : AV)
  | bad

def OpOK (P : Program) (G : Gd) (μ : Mu) (ρ : Env) (s : Sem Next) (w : World) : OpR → Prop
  | .val v H' => ∃ nx v' w' μ', s.run P w = .ok nx w' ∧ ((nx = .value v') ∨ (nx = .skip ∧ v' = undef)) ∧ Mu.le μ μ' ∧ VR μ' ρ v v' ∧ GR G μ' ρ H' w' ∧ Fr G w w'
  | .call f args => ∃ args' : List Value, s.run P w = .ok (.enter f args'.toArray) w ∧ VRs μ ρ args args'
  | .yield k args => ∃ (b n : Nat) (args' : List Value), μ k = some (b, n) ∧ s.run P w = (Instr.yield b args'.toArray).run P w ∧ VRs μ ρ args args'
  | .pan v => ∃ v', s.run P w = .halt (.panic v') w ∧ VR μ ρ v v'
  | .recov => s.run P w = .ok .recover w
  | .dfr d => ∃ d', s.run P w = .ok (.defer d') w ∧ DR μ ρ d d'
  | .bad => True

noncomputable def val1 (x : Option AV) (H : Heap) : OpR :=
  match x with
  | some v => .val v H
  | none => .bad
noncomputable def val2 (x : Option (AV × Heap)) : OpR :=
  match x with
  | some (v, H) => .val v H
  | none => .bad
noncomputable def evp (E : Tr AV) : List (Nat × Operand) → Option (List (Nat × AV))
  | [] => some []
  | (i, x) :: r => match ev E x with
    | none => none
    | some v => match evp E r with
      | none => none
      | some l => some ((i, v) :: l)
noncomputable def evo (E : Tr AV) (x : Option Operand) : Option (Option AV) :=
  match x with
  | none => some none
  | some x => match ev E x with
    | none => none
    | some v => some (some v)
noncomputable def isIface (d : TypeDesc) : Bool :=
  match d with
  | .interface _ => true
  | _ => false
noncomputable def bodied (P : Program) (f : FuncId) : Bool :=
  match fnT P f with
  | some fn => match fn.body with
    | some _ => true
    | none => false
  | none => false
noncomputable def assertA (P : Program) (x : AV) (t : TypeId) (ok : Bool) : Option AV :=
  match undT P t with
  | some d => match isIface d with
    | true => none
    | false => match x with
      | .ifc u v => match Nat.beq u t with
        | true => match ok with
          | true => some (.tup [v, .bool true])
          | false => some v
        | false => match ok with
          | true => match zeroA P t with
            | some z => some (.tup [z, .bool false])
            | none => none
          | false => none
      | _ => none
  | none => none
/-- The function that a method of an interface value is, by the value's type: without a way to go, the receiver as it is. -/
noncomputable def methF (P : Program) (t : TypeId) (m : Method) : Option FuncId :=
  match m.path.toList with
  | [] => match m.func with
    | some (f, pr) => match undT P t with
      | some (.pointer _) => match pr with
        | true => some f
        | false => none
      | some _ => match pr with
        | true => none
        | false => some f
      | none => none
    | none => none
  | _ => none
noncomputable def methA (P : Program) (t : TypeId) (name : String) : Option FuncId :=
  match infoT P t with
  | some i => match i.methods.toList.find? (fun m => m.name == name) with
    | some m => methF P t m
    | none => none
  | none => none
theorem methA_ok {P : Program} {t : TypeId} {name : String} {f : FuncId} (h : methA P t name = some f) (n : Nat) (v : Value) (w : World) : (method (n + 1) t v name).run P w = .ok (f, v) w ∧ (nilAhead (n + 1) t v name).run P w = .ok (some false) w := by
  unfold methA at h
  rw [infoT_eq] at h
  split at h
  · rename_i i hi
    split at h
    · rename_i m hm
      rw [Array.find?_toList] at hm
      unfold methF at h
      simp only [undT_eq] at h
      split at h
      · rename_i hp
        split at h
        · rename_i f' pr hf
          split at h
          · rename_i e hu
            split at h
            · cases h
              constructor
              · simp [method, typeInfo, hi, hm, hp, follow, hf, receiverAt, run_underlying hu, Place.get]
              · simp [nilAhead, typeInfo, hi, hm, hp, followBlind, hf]
            · cases h
          · rename_i d hne hu
            split at h
            · cases h
            · cases h
              constructor
              · simp only [method, typeInfo, receiverAt, Sem.run_bind, Place.get]
                cases d <;> first | (exact absurd rfl (hne _)) | simp [hi, hm, hp, follow, hf, run_underlying hu]
              · simp only [nilAhead, typeInfo, Sem.run_bind]
                cases d <;> first | (exact absurd rfl (hne _)) | simp [hi, hm, hp, followBlind, hf, run_underlying hu]
          · cases h
        · cases h
      · cases h
    · cases h
  · cases h
/-- A method of an interface value, as a value. -/
noncomputable def methV (n : String) (a c : Option (List AV)) : Option AV :=
  match a with
  | some l => match l with
    | [.ifc t v] => match c with
      | some k => match k with
        | [] => some (.meth n t v)
        | _ => none
      | none => none
    | _ => none
  | none => none
theorem methV_inv {n : String} {a c : Option (List AV)} {r : AV} (h : methV n a c = some r) : ∃ t v, a = some [.ifc t v] ∧ c = some [] ∧ r = .meth n t v := by
  unfold methV at h
  split at h
  · split at h
    · split at h
      · split at h
        · cases h; exact ⟨_, _, rfl, rfl, rfl⟩
        · cases h
      · cases h
    · cases h
  · cases h
noncomputable def callA (P : Program) (D : Dec) (E : Tr AV) (H : Heap) (c : Call) : OpR :=
  match evs E c.args.toList with
  | none => .bad
  | some l => match c.callee with
    | .value f => match ev E f with
      | some (.fn g first cap) => match bodied P g with
        | true => .call g (first ++ l ++ cap)
        | false => val2 (extA P D H g (first ++ l ++ cap))
      | some (.yld k) => .yield k l
      | some (.meth n t v) => match methA P t n with
        | some g => match bodied P g with
          | true => .call g (v :: l)
          | false => .bad
        | none => .bad
      | _ => .bad
    | .builtin b => match b with
      | .len => match l with
        | [x] => match nth c.argTypes.toList 0 with
          | some t => val1 (lenX P t x) H
          | none => .bad
        | _ => .bad
      | .append => match l with
        | [x, y] => val2 (appendX P H c.argTypes.toList x y)
        | _ => .bad
      | .copy => match l with
        | [x, y] => val2 (copyA P H c.argTypes.toList x y)
        | _ => .bad
      | .max => match l with
        | [.int k x, .int _ y] => match cmpA D .gtr y x with
          | some true => .val (.int k y) H
          | some false => .val (.int k x) H
          | none => .bad
        | _ => .bad
      | .min => match l with
        | [.int k x, .int _ y] => match cmpA D .lss y x with
          | some true => .val (.int k y) H
          | some false => .val (.int k x) H
          | none => .bad
        | _ => .bad
      | .recover => .recov
      | .clear => match l with
        | [x] => val2 (clrA P H c.argTypes.toList x)
        | _ => .bad
      | .cap => match l with
        | [x] => match nth c.argTypes.toList 0 with
          | some t => val1 (capA P t x) H
          | none => .bad
        | _ => .bad
      | .unsafeSliceData => match l with
        | [x] => val1 (sliceDataA x) H
        | _ => .bad
      | .unsafeString => match l with
        | [x, y] => val2 (unsafeStrA P H c.argTypes.toList x y)
        | _ => .bad
      | _ => .bad
    | .invoke r n => match ev E r with
      | some (.ifc t v) => match methA P t n with
        | some g => match bodied P g with
          | true => .call g (v :: l)
          | false => .bad
        | none => .bad
      | _ => .bad
noncomputable def isConstO (x : Operand) : Bool :=
  match x with
  | .const _ => true
  | _ => false
/-- Two nil values of an interface type, one of them written out as nil. -/
noncomputable def nilNil (P : Program) (op : BinOp) (t : TypeId) (y : Operand) (a b : AV) : Option AV :=
  match a with
  | .nili => match b with
    | .nili => match isConstO y with
      | true => match undT P t with
        | some (.interface _) => match op with
          | .eql => some (.bool true)
          | .neq => some (.bool false)
          | _ => none
        | _ => none
      | false => none
    | _ => none
  | _ => none
noncomputable def binB (P : Program) (D : Dec) (op : BinOp) (t : TypeId) (y : Operand) (a b : AV) : Option AV :=
  match binX P D op t a b with
  | some r => some r
  | none => nilNil P op t y a b
/-- The operations that make one block. -/
noncomputable def opMk (P : Program) (E : Tr AV) (op : Op) : Option Mk :=
  match op with
  | .alloc t => match zeroA P t with
    | some z => some (newM t z)
    | none => none
  | .box t x => match ev E x with
    | some v => some (newM t v)
    | none => none
  | .buildSlice t len parts => match evp E parts.toList with
    | some ps => buildSliceM P t len ps
    | none => none
  | .makeSlice t l c => match ev E l with
    | some a => match ev E c with
      | some b => makeM P t a b
      | none => none
    | none => none
  | .makeMap _ r => match r with
    | none => some makeMapM
    | some _ => none
  | .range t x => match ev E x with
    | some v => rangeM P t v
    | none => none
  | _ => none
noncomputable def mkR (m : Option Mk) (H : Heap) : OpR :=
  match m with
  | some m => .val (m.2 H.next) (H.add m.1)
  | none => .bad
noncomputable def opA (P : Program) (D : Dec) (E : Tr AV) (H : Heap) (op : Op) : OpR :=
  match op with
  | .move x => val1 (ev E x) H
  | .assign x => val1 (ev E x) H
  | .pick c a b => match ev E c with
    | some (.bool t) => match t with
      | true => val1 (ev E a) H
      | false => val1 (ev E b) H
    | _ => .bad
  | .alloc t => mkR (opMk P E (.alloc t)) H
  | .box t x => mkR (opMk P E (.box t x)) H
  | .build t parts => match evp E parts.toList with
    | some ps => match builtA P t ps with
      | some r => .val (.agg r) H
      | none => .bad
    | none => .bad
  | .buildSlice t len parts => mkR (opMk P E (.buildSlice t len parts)) H
  | .load t x => match ev E x with
    | some a => val1 (loadA P H t a) H
    | none => .bad
  | .store t x y => match ev E x with
    | some a => match ev E y with
      | some v => match storeA P H t a v with
        | some H' => .val (.tup []) H'
        | none => .bad
      | none => .bad
    | none => .bad
  | .nilCheck x => match ev E x with
    | some (.ptr k o) => .val (.ptr k o) H
    | some (.fn f a c) => .val (.fn f a c) H
    | some (.yld k) => .val (.yld k) H
    | some (.meth n t v) => match methA P t n with
      | some _ => .val (.meth n t v) H
      | none => .bad
    | _ => .bad
  | .binOp op t x y _ => match ev E x with
    | some a => match ev E y with
      | some b => val1 (binB P D op t y a b) H
      | none => .bad
    | none => .bad
  | .unOp op _ x => match op with
    | .not => match ev E x with
      | some (.bool b) => .val (.bool (not b)) H
      | _ => .bad
    | .neg => match ev E x with
      | some (.int k e) => .val (.int k (arith D .sub k (.lit 0) e)) H
      | _ => .bad
    | _ => .bad
  | .convert src dst x => match ev E x with
    | some a => val1 (convX P H src dst a) H
    | none => .bad
  | .makeInterface t x => match undT P t with
    | some d => match isIface d with
      | true => .bad
      | false => match ev E x with
        | some v => .val (.ifc t v) H
        | none => .bad
    | none => .bad
  | .makeFunc fn first cap => match fn with
    | .func f => match evs E first.toList with
      | some a => match evs E cap.toList with
        | some c => .val (.fn f a c) H
        | none => .bad
      | none => .bad
    | .method n => val1 (methV n (evs E first.toList) (evs E cap.toList)) H
    | _ => .bad
  | .makeSlice t l c => mkR (opMk P E (.makeSlice t l c)) H
  | .makeMap t r => mkR (opMk P E (.makeMap t r)) H
  | .range t x => mkR (opMk P E (.range t x)) H
  | .next it s => match s with
    | true => match ev E it with
      | some a => match nextA H a with
        | some (v, H') => .val v H'
        | none => .bad
      | none => .bad
    | false => .bad
  | .lookup t x ix ok => match ev E x with
    | some a => match ev E ix with
      | some b => val1 (lookupA P H t a b ok) H
      | none => .bad
    | none => .bad
  | .mapUpdate t m k x => match ev E m with
    | some a => match ev E k with
      | some b => match ev E x with
        | some v => match mapUpdateA P H t a b v with
          | some H' => .val (.tup []) H'
          | none => .bad
        | none => .bad
      | none => .bad
    | none => .bad
  | .insert t m k x => match ev E m with
    | some a => match ev E k with
      | some b => match ev E x with
        | some v => match mapUpdateA P H t a b v with
          | some H' => .val (.tup []) H'
          | none => .bad
        | none => .bad
      | none => .bad
    | none => .bad
  | .slice t x lo hi mx => match mx with
    | some m => match ev E x with
      | some a => match evo E lo with
        | some l => match evo E hi with
          | some h => match evo E (some m) with
            | some y => val1 (sliceN P t a l h y) H
            | none => .bad
          | none => .bad
        | none => .bad
      | none => .bad
    | none => match ev E x with
      | some a => match evo E lo with
        | some l => match evo E hi with
          | some h => val1 (sliceX P H t a l h) H
          | none => .bad
        | none => .bad
      | none => .bad
  | .fieldAddr t x f => match ev E x with
    | some a => val1 (fieldAtA P t a f) H
    | none => .bad
  | .field t x f => match ev E x with
    | some a => val1 (fieldA P t a f) H
    | none => .bad
  | .indexAddr t x ix => match ev E x with
    | some a => match ev E ix with
      | some b => val1 (indexAtA P t a b) H
      | none => .bad
    | none => .bad
  | .index t x ix => match ev E x with
    | some a => match ev E ix with
      | some b => val1 (indexX P t a b) H
      | none => .bad
    | none => .bad
  | .extract x i => match ev E x with
    | some a => val1 (extractA a i) H
    | none => .bad
  | .typeAssert x _ t ok => match ev E x with
    | some a => val1 (assertA P a t ok) H
    | none => .bad
  | .call c => callA P D E H c
  | .defer c => match evs E c.args.toList with
    | none => .bad
    | some l => match c.callee with
      | .value f => match ev E f with
        | some (.fn g first cap) => .dfr (.fn g (first ++ l) cap)
        | _ => .bad
      | _ => .bad
  | .panic x => match ev E x with
    | some (.ifc t v) => .pan (.ifc t v)
    | _ => .bad
  | _ => .bad

section
variable {P : Program} {G : Gd} {μ : Mu} {ρ : Env} {H : Heap} {w : World} {nt : Nat} {E : Tr AV} {a : Act}
theorem evp_ok (hE : ER μ ρ nt E a.tmps) : ∀ {ps : List (Nat × Operand)} {l : List (Nat × AV)}, evp E ps = some l → PRs μ ρ l (ps.map fun (i, x) => (i, a.eval x))
  | [], l, h => by simp [evp] at h; subst h; exact .nil
  | (i, x) :: r, l, h => by
    simp only [evp] at h
    cases e1 : ev E x with
    | none => simp [e1] at h
    | some v =>
      cases e2 : evp E r with
      | none => simp [e1, e2] at h
      | some l2 =>
        simp only [e1, e2, Option.some.injEq] at h
        subst h
        exact .cons (ev_ok hE e1) (evp_ok hE e2)
theorem evo_ok (hE : ER μ ρ nt E a.tmps) {x : Option Operand} {l : Option AV} (h : evo E x = some l) : ORel μ ρ l (x.map a.eval) := by
  unfold evo at h
  split at h
  · cases h; exact .none
  · split at h
    · cases h
    · rename_i e; cases h; exact .some (ev_ok hE e)

theorem OpOK.of_val {s : Sem Value} {v : AV} {H' : Heap} (h : ValOK P G μ ρ s w v H') : OpOK P G μ ρ (do pure (.value (← s))) w (.val v H') := by
  obtain ⟨v', w', μ', h1, h2, h3, h4, h5⟩ := h
  exact ⟨.value v', v', w', μ', by simp [h1], .inl rfl, h2, h3, h4, h5⟩
theorem OpOK.pure1 (hG : GR G μ ρ H w) {s : Sem Next} {v : AV} {v' : Value} (h : s.run P w = .ok (.value v') w) (hv : VR μ ρ v v') : OpOK P G μ ρ s w (.val v H) :=
  ⟨.value v', v', w, μ, h, .inl rfl, Mu.le_refl _, hv, hG, Fr.refl _ _⟩
theorem OpOK.val1' {s : Sem Value} {x : Option AV} (h : ∀ v, x = some v → ValOK P G μ ρ s w v H) : OpOK P G μ ρ (do pure (.value (← s))) w (val1 x H) := by
  cases x with
  | none => trivial
  | some v => exact OpOK.of_val (h v rfl)
theorem OpOK.val2' {s : Sem Value} {x : Option (AV × Heap)} (h : ∀ v H', x = some (v, H') → ValOK P G μ ρ s w v H') : OpOK P G μ ρ (do pure (.value (← s))) w (val2 x) := by
  cases x with
  | none => trivial
  | some p => obtain ⟨v, H'⟩ := p; exact OpOK.of_val (h v H' rfl)

theorem assert_ok (hG : GR G μ ρ H w) {x v : AV} {x' : Value} {t t0 : TypeId} {ok : Bool} (hx : VR μ ρ x x') (h : assertA P x t ok = some v) : ValOK P G μ ρ (Instr.typeAssert x' t0 t ok) w v H := by
  unfold assertA at h
  simp only [undT_eq] at h
  split at h
  · rename_i d hu
    split at h
    · cases h
    · rename_i hif
      have hif' : ∀ ms, d ≠ .interface ms := fun ms e => by subst e; simp [isIface] at hif
      split at h
      · rename_i u y
        cases hx with
        | ifc hv =>
        split at h
        · rename_i hut
          have hut := Nat.eq_of_beq_eq_true hut
          subst hut
          split at h <;> cases h
          · refine ValOK.pure hG (v' := .tuple #[_, .bool true]) ?_ (.tup (l' := [_, .bool true]) (.cons hv (.cons .bool .nil)))
            unfold Instr.typeAssert
            rw [Sem.run_bind, run_und hu]
            cases d <;> first | (exact absurd rfl (hif' _)) | simp
          · refine ValOK.pure hG ?_ hv
            unfold Instr.typeAssert
            rw [Sem.run_bind, run_und hu]
            cases d <;> first | (exact absurd rfl (hif' _)) | simp
        · rename_i hut
          have hut' : u ≠ t := fun e => by subst e; simp at hut
          split at h
          · cases hz : zeroA P t with
            | none => simp [hz] at h
            | some z =>
              simp only [hz, Option.some.injEq] at h
              subst h
              obtain ⟨i, z', hi, hz', hv'⟩ := zeroA_ok (μ := μ) (ρ := ρ) hz
              refine ValOK.pure hG (v' := .tuple #[z', .bool false]) ?_ (.tup (l' := [z', .bool false]) (.cons hv' (.cons .bool .nil)))
              unfold Instr.typeAssert
              rw [Sem.run_bind, run_und hu]
              cases d <;> first | (exact absurd rfl (hif' _)) | simp [hut', run_zero hi hz']
          · cases h
      · cases h
  · cases h
/-- No function is the one whose call is no call. -/
def NoNG (P : Program) : Prop := ∀ (f : FuncId) (fn : Func), P.funcs[f]? = some fn → (fn.name == "runtime.NumGoroutine") = false
theorem callFunc_ok (hN : NoNG P) {f : FuncId} (h : bodied P f = true) (args : Array Value) (w : World) : (callFunc f args).run P w = .ok (.enter f args) w := by
  unfold bodied at h
  rw [fnT_eq] at h
  split at h
  · rename_i fn hf
    split at h
    · rename_i c hc
      have hne : ¬ fn.name = "runtime.NumGoroutine" := by simpa using hN f fn hf
      simp [callFunc, hf, hne, hc]
    · cases h
  · cases h

theorem max2_ok (_hG : GR G μ ρ H w) {D : Dec} (hD : D.OK P ρ) {k k' : IntKind} {x y : SE} {r : Bool} (h : cmpA D .gtr y x = some r) :
    (Builtin.max2 (.int k (x.val ρ)) (.int k' (y.val ρ))).run P w = .ok (.int k ((if r then y else x).val ρ)) w := by
  have hc := cmp_ok (P := P) (w := w) hD h
  have hc' : decide (y.val ρ > x.val ρ) = r := by simpa [Op.intCmp] using hc
  cases r with
  | true => have := of_decide_eq_true hc'; simp [Builtin.max2, this]
  | false => have := of_decide_eq_false hc'; simp [Builtin.max2, this]
theorem min2_ok (_hG : GR G μ ρ H w) {D : Dec} (hD : D.OK P ρ) {k k' : IntKind} {x y : SE} {r : Bool} (h : cmpA D .lss y x = some r) :
    (Builtin.min2 (.int k (x.val ρ)) (.int k' (y.val ρ))).run P w = .ok (.int k ((if r then y else x).val ρ)) w := by
  have hc := cmp_ok (P := P) (w := w) hD h
  have hc' : decide (y.val ρ < x.val ρ) = r := by simpa [Op.intCmp] using hc
  cases r with
  | true => have := of_decide_eq_true hc'; simp [Builtin.min2, this]
  | false => have := of_decide_eq_false hc'; simp [Builtin.min2, this]
theorem call_ok (hG : GR G μ ρ H w) (hE : ER μ ρ nt E a.tmps) {D : Dec} (hD : D.OK P ρ) (hN : NoNG P) (c : Call) (ty : TypeId) : OpOK P G μ ρ (do let d ← resolve a.eval c ty; invoke d.target d.args) w (callA P D E H c) := by
  obtain ⟨callee, cargs, ats⟩ := c
  unfold callA
  dsimp only
  split
  · trivial
  · rename_i l hl
    have hargs := evs_ok hE hl
    have hmap : (cargs.map a.eval).toList = cargs.toList.map a.eval := by simp
    obtain ⟨vs, hvs⟩ : ∃ vs, vs = cargs.toList.map a.eval := ⟨_, rfl⟩
    rw [← hvs] at hargs
    have hmap' : cargs.map a.eval = vs.toArray := by apply Array.toList_inj.1; rw [hmap, hvs]
    split
    · rename_i f
      split
      · rename_i g first cap hf
        have hv := ev_ok hE hf
        split
        · rename_i hb
          generalize hfv : a.eval f = fv at hv
          cases hv with
          | @fn _ _ _ first' cap' h1 h2 =>
          refine ⟨first' ++ vs ++ cap', ?_, (h1.append hargs).append h2⟩
          simp only [resolve, hfv, hmap', Deferred.ofValue, Sem.run_bind, Sem.run_pure, Result.andThen_ok, invoke]
          rw [callFunc_ok hN hb]
          simp
        · generalize hfv : a.eval f = fv at hv
          cases hv with
          | @fn _ _ _ first' cap' h1 h2 =>
          cases he : extA P D H g (first ++ l ++ cap) with
          | none => trivial
          | some p =>
            obtain ⟨v, H'⟩ := p
            obtain ⟨v', w', μ', r1, r2, r3, r4, r5⟩ := ext_ok hG hD ((h1.append hargs).append h2) he
            refine ⟨.value v', v', w', μ', ?_, .inl rfl, r2, r3, r4, r5⟩
            simp only [resolve, hfv, hmap', Deferred.ofValue, Sem.run_bind, Sem.run_pure, Result.andThen_ok, invoke]
            simpa using r1
      · rename_i k hf
        have hv := ev_ok hE hf
        generalize hfv : a.eval f = fv at hv
        cases hv with
        | @yld _ b n hb =>
        refine ⟨b, n, vs, hb, ?_, hargs⟩
        simp only [resolve, hfv, hmap', Deferred.ofValue, Sem.run_bind, Sem.run_pure, Result.andThen_ok, invoke]
        simp
      · rename_i n t v hf
        have hv := ev_ok hE hf
        generalize hfv : a.eval f = fv at hv
        cases hv with
        | @meth _ _ _ v' h1 =>
        split
        · rename_i g hm
          split
          · rename_i hb
            refine ⟨v' :: vs, ?_, .cons h1 hargs⟩
            have hk := (methA_ok hm (P.types.size + 99) v' w).1
            simp only [resolve, hfv, hmap', Deferred.ofValue, Sem.run_bind, Sem.run_pure, Result.andThen_ok, invoke]
            simp only [callMethod]
            have hk' : (method (P.types.size + Made.depth) t v' n).run P w = .ok (g, v') w := hk
            simp [hk', callFunc_ok hN hb]
          · trivial
        · trivial
      · trivial
    · rename_i b
      have hres : ∀ (s : Array Value → Sem Next), (∀ args, builtin b ats ty (cargs.map fun | .const _ => true | _ => false) args = s args) →
          (do let d ← resolve a.eval { callee := .builtin b, args := cargs, argTypes := ats } ty; invoke d.target d.args) = s vs.toArray := fun s hs => by
        simp only [resolve, hmap', pure_bind, invoke]
        exact hs _
      split
      · rw [hres (fun args => do pure (.value (← Builtin.len_ ats ty args))) (fun _ => rfl)]
        split
        · cases hargs with
          | cons h1 h2 =>
          cases h2
          split
          · rename_i t ht
            rw [nth_eq] at ht
            exact OpOK.val1' fun v hv => lenX_ok hG (by simpa using ht) h1 hv
          · trivial
        · trivial
      · rw [hres (fun args => do pure (.value (← Builtin.append_ ats ty args))) (fun _ => rfl)]
        split
        · cases hargs with
          | cons h1 h2 =>
          cases h2 with
          | cons h2 h3 =>
          cases h3
          exact OpOK.val2' fun v H' hv => appendX_ok hG h1 h2 hv
        · trivial
      · rw [hres (fun args => do pure (.value (← Builtin.copy_ ats ty args))) (fun _ => rfl)]
        split
        · cases hargs with
          | cons h1 h2 =>
          cases h2 with
          | cons h2 h3 =>
          cases h3
          exact OpOK.val2' fun v H' hv => copy_ok hG h1 h2 hv
        · trivial
      · rw [hres (fun args => do pure (.value (← Builtin.max_ ats ty args))) (fun _ => rfl)]
        split
        · cases hargs with
          | cons h1 h2 =>
          cases h2 with
          | cons h2 h3 =>
          cases h3
          cases h1 with
          | int e1 => cases h2 with
            | int e2 =>
            subst e1; subst e2
            split
            · rename_i hc
              exact OpOK.pure1 hG (by simp [Builtin.max_, max2_ok (P := P) hG hD hc]) (.int rfl)
            · rename_i hc
              exact OpOK.pure1 hG (by simp [Builtin.max_, max2_ok (P := P) hG hD hc]) (.int rfl)
            · trivial
        · trivial
      · rw [hres (fun args => do pure (.value (← Builtin.min_ ats ty args))) (fun _ => rfl)]
        split
        · cases hargs with
          | cons h1 h2 =>
          cases h2 with
          | cons h2 h3 =>
          cases h3
          cases h1 with
          | int e1 => cases h2 with
            | int e2 =>
            subst e1; subst e2
            split
            · rename_i hc
              exact OpOK.pure1 hG (by simp [Builtin.min_, min2_ok (P := P) hG hD hc]) (.int rfl)
            · rename_i hc
              exact OpOK.pure1 hG (by simp [Builtin.min_, min2_ok (P := P) hG hD hc]) (.int rfl)
            · trivial
        · trivial
      · rw [hres (fun args => pure .recover) (fun _ => rfl)]
        rfl
      · rw [hres (fun args => do pure (.value (← Builtin.clear_ ats ty args))) (fun _ => rfl)]
        split
        · cases hargs with
          | cons h1 h2 =>
          cases h2
          exact OpOK.val2' fun v H' hv => clr_ok hG h1 hv
        · trivial
      · rw [hres (fun args => do pure (.value (← Builtin.cap_ ats ty args))) (fun _ => rfl)]
        split
        · cases hargs with
          | cons h1 h2 =>
          cases h2
          split
          · rename_i t ht
            rw [nth_eq] at ht
            exact OpOK.val1' fun v hv => cap_ok hG (by simpa using ht) h1 hv
          · trivial
        · trivial
      · rw [hres (fun args => do pure (.value (← Builtin.unsafeSliceData_ ats ty args))) (fun _ => rfl)]
        split
        · cases hargs with
          | cons h1 h2 =>
          cases h2
          exact OpOK.val1' fun v hv => sliceData_ok hG h1 hv
        · trivial
      · rw [hres (fun args => do pure (.value (← Builtin.unsafeString_ ats ty args))) (fun _ => rfl)]
        split
        · cases hargs with
          | cons h1 h2 =>
          cases h2 with
          | cons h2 h3 =>
          cases h3
          exact OpOK.val2' fun v H' hv => unsafeStr_ok hG h1 h2 hv
        · trivial
      · trivial
    · rename_i r n
      split
      · rename_i t v hf
        have hv := ev_ok hE hf
        generalize hfv : a.eval r = fv at hv
        cases hv with
        | @ifc _ _ v' h1 =>
        split
        · rename_i g hm
          split
          · rename_i hb
            refine ⟨v' :: vs, ?_, .cons h1 hargs⟩
            have hk : (method (P.types.size + Made.depth) t v' n).run P w = .ok (g, v') w := (methA_ok hm (P.types.size + 99) v' w).1
            simp only [resolve, hfv, hmap', Sem.run_bind, Sem.run_pure, Result.andThen_ok, invoke]
            simp only [callMethod]
            simp [hk, callFunc_ok hN hb]
          · trivial
        · trivial
      · trivial

theorem binB_ok (hG : GR G μ ρ H w) {D : Dec} (hD : D.OK P ρ) {op : BinOp} {t : TypeId} {x y : Operand} {u v : AV} {u' v' : Value} (ha : VR μ ρ u u') (hb : VR μ ρ v v') {r : AV} (h : binB P D op t y u v = some r) :
    ∃ r', (eqGuard op t x y u' v').run P w = .ok () w ∧ (binOp op t u' v').run P w = .ok r' w ∧ VR μ ρ r r' := by
  unfold binB at h
  split at h
  · rename_i r0 hr
    cases h
    exact binX_ok (P := P) hG hD ha hb hr
  · unfold nilNil at h
    simp only [undT_eq] at h
    split at h
    · split at h
      · cases ha; cases hb
        split at h
        · rename_i hc
          split at h
          · rename_i ms hu
            have hg : (eqGuard op t x y .nilIface .nilIface).run P w = .ok () w := by
              have hy : ∃ c, y = .const c := by
                unfold isConstO at hc
                split at hc
                · exact ⟨_, rfl⟩
                · cases hc
              obtain ⟨c, rfl⟩ := hy
              unfold eqGuard
              cases op <;> simp
            have he : (Op.equal t .nilIface .nilIface).run P w = .ok true w := by
              have : ∀ d, (Op.equalIn (d + 1) t .nilIface .nilIface).run P w = .ok true w := fun d => by simp [Op.equalIn, run_underlying hu]
              exact this 9999
            split at h <;> cases h
            · exact ⟨.bool true, hg, by simp [binOp, he], .bool⟩
            · exact ⟨.bool false, hg, by simp [binOp, he], .bool⟩
          · cases h
        · cases h
      · cases h
    · cases h
theorem mk_ok (hE : ER μ ρ nt E a.tmps) {o : Oper} {m : Mk} (h : opMk P E o.op = some m) : ∃ s : Sem Value, execOp a.eval o = (do pure (.value (← s))) ∧ MkOK P μ ρ s w m := by
  obtain ⟨dst, op, ty, pos, after, guard⟩ := o
  dsimp only at h
  have one : ∀ {x : Operand} {v : AV}, ev E x = some v → VR μ ρ v (a.eval x) := fun h => ev_ok hE h
  unfold opMk at h
  split at h
  · split at h
    · rename_i z hz; cases h; exact ⟨_, rfl, alloc_mk _ hz⟩
    · cases h
  · split at h
    · rename_i v hv; cases h; exact ⟨_, rfl, box_mk _ (one hv)⟩
    · cases h
  · split at h
    · rename_i ps hps
      refine ⟨_, rfl, buildSlice_mk ?_ h⟩
      simpa using evp_ok hE hps
    · cases h
  · split at h
    · rename_i u hu
      split at h
      · rename_i v hv; exact ⟨_, rfl, make_mk (one hu) (one hv) h⟩
      · cases h
    · cases h
  · split at h
    · cases h; exact ⟨_, rfl, makeMap_mk _⟩
    · cases h
  · split at h
    · rename_i v hv; exact ⟨_, rfl, range_mk (one hv) h⟩
    · cases h
  · cases h
theorem mkR_ok (hG : GR G μ ρ H w) (hE : ER μ ρ nt E a.tmps) (o : Oper) : OpOK P G μ ρ (execOp a.eval o) w (mkR (opMk P E o.op) H) := by
  cases h : opMk P E o.op with
  | none => trivial
  | some m =>
    obtain ⟨s, hs, hm⟩ := mk_ok (P := P) (w := w) hE h
    rw [hs]
    exact OpOK.of_val (hm.val hG)
theorem op_ok (hG : GR G μ ρ H w) (hE : ER μ ρ nt E a.tmps) {D : Dec} (hD : D.OK P ρ) (hN : NoNG P) (o : Oper) : OpOK P G μ ρ (execOp a.eval o) w (opA P D E H o.op) := by
  obtain ⟨dst, op, ty, pos, after, guard⟩ := o
  dsimp only
  have one : ∀ {x : Operand} {v : AV}, ev E x = some v → VR μ ρ v (a.eval x) := fun h => ev_ok hE h
  have single : ∀ x : Operand, OpOK P G μ ρ (pure (.value (a.eval x))) w (val1 (ev E x) H) := fun x => by
    cases hx : ev E x with
    | none => trivial
    | some v => exact OpOK.pure1 hG rfl (one hx)
  cases op with
  | move x => exact single x
  | assign x => exact single x
  | pick c x y =>
    simp only [opA]
    split
    · rename_i t ht
      have hv := one ht
      generalize hcv : a.eval c = cv at hv
      cases hv
      split
      · cases hx : ev E x with
        | none => trivial
        | some v => exact OpOK.pure1 hG (by simp [execOp, hcv, asBool]) (one hx)
      · cases hy : ev E y with
        | none => trivial
        | some v => exact OpOK.pure1 hG (by simp [execOp, hcv, asBool]) (one hy)
    · trivial
  | alloc t => exact mkR_ok hG hE _
  | box t x => exact mkR_ok hG hE _
  | build t parts =>
    simp only [opA]
    split
    · rename_i ps hps
      split
      · rename_i r hr
        refine OpOK.of_val (build_ok hG ?_ hr)
        simpa using evp_ok hE hps
      · trivial
    · trivial
  | buildSlice t len parts => exact mkR_ok hG hE _
  | load t x =>
    simp only [opA]
    split
    · rename_i v hv; exact OpOK.val1' fun u hu => loadA_ok hG (one hv) hu
    · trivial
  | store t x y =>
    simp only [opA]
    split
    · rename_i v hv
      split
      · rename_i u hu
        split
        · rename_i H' hst
          obtain ⟨w', q1, q2, q3⟩ := storeA_ok (P := P) hG (one hv) (one hu) hst
          exact ⟨.skip, undef, w', μ, by simp [execOp, q1], .inr ⟨rfl, rfl⟩, Mu.le_refl _, .tup (l' := []) .nil, q2, q3⟩
        · trivial
      · trivial
    · trivial
  | nilCheck x =>
    simp only [opA]
    split
    · rename_i k o hv
      have hv := one hv
      generalize hxv : a.eval x = xv at hv
      cases hv with
      | ptr hb => exact OpOK.pure1 hG (by simp [execOp, hxv]) (.ptr hb)
    · rename_i f1 f2 f3 hv
      have hv := one hv
      generalize hxv : a.eval x = xv at hv
      cases hv with
      | fn h1 h2 => exact OpOK.pure1 hG (by simp [execOp, hxv]) (.fn h1 h2)
    · rename_i k hv
      have hv := one hv
      generalize hxv : a.eval x = xv at hv
      cases hv with
      | yld hb => exact OpOK.pure1 hG (by simp [execOp, hxv]) (.yld hb)
    · rename_i n t v hv
      have hv := one hv
      generalize hxv : a.eval x = xv at hv
      cases hv with
      | @meth _ _ _ v' h1 =>
      split
      · rename_i g hm
        have hk : (nilAhead (P.types.size + Made.depth) t v' n).run P w = .ok (some false) w := (methA_ok hm (P.types.size + 99) v' w).2
        exact OpOK.pure1 hG (by simp [execOp, hxv, hk]) (.meth h1)
      · trivial
    · trivial
  | binOp op t x y yt =>
    simp only [opA]
    split
    · rename_i u hu
      split
      · rename_i v hv
        cases hb : binB P D op t y u v with
        | none => trivial
        | some r =>
          obtain ⟨r', h0, h1, h2⟩ := binB_ok (P := P) (x := x) hG hD (one hu) (one hv) hb
          exact OpOK.pure1 hG (by simp [execOp, h0, h1]) h2
      · trivial
    · trivial
  | unOp op t x =>
    simp only [opA]
    split
    · split
      · rename_i b hv
        have hv := one hv
        generalize hxv : a.eval x = xv at hv
        cases hv
        exact OpOK.pure1 hG (by simp [execOp, hxv, Op.unary]) .bool
      · trivial
    · split
      · rename_i k e hv
        have hv := one hv
        generalize hxv : a.eval x = xv at hv
        cases hv with
        | int he =>
        subst he
        refine OpOK.pure1 hG ?_ (.int (arith_val hD _ _ _ _))
        simp [execOp, hxv, Op.unary, Op.intArith, binVal, SE.val]
      · trivial
    · trivial
  | convert src dst x =>
    simp only [opA]
    split
    · rename_i v hv; exact OpOK.val1' fun u hu => convX_ok hG (one hv) hu
    · trivial
  | makeInterface t x =>
    simp only [opA, undT_eq]
    split
    · rename_i d hd
      split
      · trivial
      · rename_i hif
        have hif' : ∀ ms, d ≠ .interface ms := fun ms e => by subst e; simp [isIface] at hif
        split
        · rename_i v hv
          refine OpOK.pure1 hG (v' := .iface t (a.eval x)) ?_ (.ifc (one hv))
          simp only [execOp, Sem.run_bind, Instr.makeInterface, run_und hd, Result.andThen_ok]
          cases d <;> first | (exact absurd rfl (hif' _)) | simp
        · trivial
    · trivial
  | makeFunc fn first cap =>
    simp only [opA]
    split
    · rename_i f
      split
      · rename_i l1 h1
        split
        · rename_i l2 h2
          have e1 := evs_ok hE h1
          have e2 := evs_ok hE h2
          refine OpOK.pure1 hG ?_ (.fn e1 e2)
          simp only [execOp, Instr.makeFunc, pure_bind, Sem.run_pure]
          rw [show first.map a.eval = (first.toList.map a.eval).toArray from by apply Array.toList_inj.1; simp, show cap.map a.eval = (cap.toList.map a.eval).toArray from by apply Array.toList_inj.1; simp]
        · trivial
      · trivial
    · rename_i n
      refine OpOK.val1' fun r hr => ?_
      obtain ⟨t, v, h1, h2, rfl⟩ := methV_inv hr
      have e1 := evs_ok hE h1
      have e2 := evs_ok hE h2
      have f1 : first.map a.eval = (first.toList.map a.eval).toArray := by apply Array.toList_inj.1; simp
      have f2 : cap.map a.eval = (cap.toList.map a.eval).toArray := by apply Array.toList_inj.1; simp
      generalize first.toList.map a.eval = l1 at e1 f1
      generalize cap.toList.map a.eval = l2 at e2 f2
      cases e2
      cases e1 with
      | cons g1 g2 =>
      cases g2
      cases g1 with
      | @ifc _ _ v' g =>
      refine ValOK.pure hG (v' := .func (.method n) #[.iface t v'] #[]) ?_ (.meth g)
      rw [f1, f2]
      simp [Instr.makeFunc]
    · trivial
  | makeSlice t l c => exact mkR_ok hG hE _
  | makeMap t r => exact mkR_ok hG hE _
  | lookup t x ix ok =>
    simp only [opA]
    split
    · rename_i u hu
      split
      · rename_i v hv; exact OpOK.val1' fun r hr => lookup_ok hG (one hu) (one hv) hr
      · trivial
    · trivial
  | mapUpdate t m k x =>
    simp only [opA]
    split
    · rename_i u hu
      split
      · rename_i v hv
        split
        · rename_i y hy
          split
          · rename_i H' hst
            obtain ⟨w', q1, q2, q3⟩ := mapUpdate_ok (P := P) hG (one hu) (one hv) (one hy) hst
            exact ⟨.skip, undef, w', μ, by simp [execOp, q1], .inr ⟨rfl, rfl⟩, Mu.le_refl _, .tup (l' := []) .nil, q2, q3⟩
          · trivial
        · trivial
      · trivial
    · trivial
  | insert t m k x =>
    simp only [opA]
    split
    · rename_i u hu
      split
      · rename_i v hv
        split
        · rename_i y hy
          split
          · rename_i H' hst
            obtain ⟨w', q1, q2, q3⟩ := mapUpdate_ok (P := P) hG (one hu) (one hv) (one hy) hst
            exact ⟨.skip, undef, w', μ, by simp [execOp, q1], .inr ⟨rfl, rfl⟩, Mu.le_refl _, .tup (l' := []) .nil, q2, q3⟩
          · trivial
        · trivial
      · trivial
    · trivial
  | range t x => exact mkR_ok hG hE ⟨dst, .range t x, ty, pos, after, guard⟩
  | next it s =>
    simp only [opA]
    split
    · split
      · rename_i u hu
        split
        · rename_i v H' hn
          exact OpOK.of_val (next_ok hG (one hu) hn)
        · trivial
      · trivial
    · trivial
  | slice t x lo hi mx =>
    simp only [opA]
    split
    · rename_i m
      split
      · rename_i u hu
        split
        · rename_i l hl
          split
          · rename_i h hh
            split
            · rename_i y hy; exact OpOK.val1' fun r hr => sliceN_ok hG (one hu) (evo_ok hE hl) (evo_ok hE hh) (evo_ok hE hy) hr
            · trivial
          · trivial
        · trivial
      · trivial
    · split
      · rename_i u hu
        split
        · rename_i l hl
          split
          · rename_i h hh; exact OpOK.val1' fun r hr => sliceX_ok hG (one hu) (evo_ok hE hl) (evo_ok hE hh) hr
          · trivial
        · trivial
      · trivial
  | fieldAddr t x f =>
    simp only [opA]
    split
    · rename_i u hu; exact OpOK.val1' fun r hr => fieldAt_ok hG (one hu) hr
    · trivial
  | field t x f =>
    simp only [opA]
    split
    · rename_i u hu; exact OpOK.val1' fun r hr => field_ok hG (one hu) hr
    · trivial
  | indexAddr t x ix =>
    simp only [opA]
    split
    · rename_i u hu
      split
      · rename_i v hv; exact OpOK.val1' fun r hr => indexAt_ok hG (one hu) (one hv) hr
      · trivial
    · trivial
  | index t x ix =>
    simp only [opA]
    split
    · rename_i u hu
      split
      · rename_i v hv; exact OpOK.val1' fun r hr => indexX_ok hG (one hu) (one hv) hr
      · trivial
    · trivial
  | extract x i =>
    simp only [opA]
    split
    · rename_i u hu; exact OpOK.val1' fun r hr => extract_ok hG (one hu) hr
    · trivial
  | typeAssert x t0 t ok =>
    simp only [opA]
    split
    · rename_i u hu; exact OpOK.val1' fun r hr => assert_ok hG (one hu) hr
    · trivial
  | call c => exact call_ok hG hE hD hN c ty
  | defer c =>
    obtain ⟨callee, cargs, ats⟩ := c
    simp only [opA]
    split
    · trivial
    · rename_i l hl
      have hargs := evs_ok hE hl
      split
      · rename_i f
        split
        · rename_i g first cap hf
          have hv := one hf
          generalize hfv : a.eval f = fv at hv
          cases hv with
          | @fn _ _ _ first' cap' h1 h2 =>
          refine ⟨_, ?_, .fn (h1.append hargs) h2⟩
          simp [execOp, resolve, hfv, Deferred.ofValue]
        · trivial
      · trivial
  | panic x =>
    simp only [opA]
    split
    · rename_i t v hv
      have hv := one hv
      generalize hxv : a.eval x = xv at hv
      cases hv with
      | ifc h => exact ⟨_, by simp [execOp, hxv, Instr.panic], .ifc h⟩
    · trivial
  | _ => trivial
end
end Vx

/-! The machine: its abstract frames, one step of it. -/
namespace Vx
open Go

inductive AItem : Type where
  | code (c : Code)
  | inBlock (id : Nat)
  | inLoop (b : Code)
  | inScope (b : Code)
  | inOps (all : Array Oper) (rest : List Oper)
  | inRF (k : Nat)
  | endRF (k : Nat)
  | beginRound
structure AEnt : Type where
  v : AV
  rcv : Bool
inductive AMode : Type where
  | run
  | ret
  | pan (chain : List AEnt)
structure AF : Type where
  fn : FuncId
  df : Bool
  ro : Option Nat
  nt : Nat
  E : Tr AV
  todo : List AItem
  defers : List ADef
  mode : AMode
structure AM : Type where
  fr : AF
  cs : List AF
  H : Heap

/-! ### What stands for what -/
inductive L2 {α β : Type} (R : α → β → Prop) : List α → List β → Prop
  | nil : L2 R [] []
  | cons {a : α} {b : β} {l : List α} {r : List β} (h : R a b) (hs : L2 R l r) : L2 R (a :: l) (b :: r)
theorem L2.mono {α β : Type} {R R' : α → β → Prop} (hR : ∀ a b, R a b → R' a b) : ∀ {l : List α} {r : List β}, L2 R l r → L2 R' l r
  | _, _, .nil => .nil
  | _, _, .cons h hs => .cons (hR _ _ h) (hs.mono hR)
inductive IR (μ : Mu) : AItem → Item → Prop
  | code {c : Code} : IR μ (.code c) (.code c)
  | inBlock {id : Nat} : IR μ (.inBlock id) (.inBlock id)
  | inLoop {b : Code} : IR μ (.inLoop b) (.inLoop b)
  | inScope {b : Code} : IR μ (.inScope b) (.inScope b)
  | inOps {all : Array Oper} {rest : List Oper} {i : Nat} (h : all.toList.drop i = rest) (hi : i ≤ all.size) : IR μ (.inOps all rest) (.inRegion all (List.range' i (all.size - i)))
  | inRF {k b n : Nat} (h : μ k = some (b, n)) : IR μ (.inRF k) (.inRangeFunc b)
  | endRF {k b n : Nat} (h : μ k = some (b, n)) : IR μ (.endRF k) (.endRangeFunc b)
  | beginRound : IR μ .beginRound .beginRound
inductive EntR (μ : Mu) (ρ : Env) : AEnt → PanicEntry → Prop
  | mk {v : AV} {v' : Value} {r : Bool} (h : VR μ ρ v v') : EntR μ ρ ⟨v, r⟩ { v := v', recovered := r }
inductive MoR (μ : Mu) (ρ : Env) : AMode → FrameMode → Prop
  | run : MoR μ ρ .run .run
  | ret : MoR μ ρ .ret .returning
  | pan {c : List AEnt} {c' : List PanicEntry} (h : L2 (EntR μ ρ) c c') : MoR μ ρ (.pan c) (.panicking c')
inductive RoR (μ : Mu) : Option Nat → Option Nat → Prop
  | none : RoR μ none none
  | some {k b n : Nat} (h : μ k = some (b, n)) : RoR μ (some k) (some b)
def kindOf (df : Bool) : CallKind := if df then .deferred else .normal
structure FR (μ : Mu) (ρ : Env) (f : AF) (fr : Frame) : Prop where
  fn : fr.fn = f.fn
  kind : fr.kind = kindOf f.df
  ro : RoR μ f.ro fr.roundOf
  E : ER μ ρ f.nt f.E fr.tmps
  todo : f.mode = .run → L2 (IR μ) f.todo fr.todo
  defers : L2 (DR μ ρ) f.defers fr.defers
  mode : MoR μ ρ f.mode fr.mode
/-- The machine stands for a lone one, on top of the callers cs0. -/
structure MR (G : Gd) (μ : Mu) (ρ : Env) (m : AM) (cs0 : List Frame) (fr : Frame) (cs : List Frame) (w : World) : Prop where
  fr : FR μ ρ m.fr fr
  cs : ∃ cs1, cs = cs1 ++ cs0 ∧ L2 (FR μ ρ) m.cs cs1
  H : GR G μ ρ m.H w

section
variable {μ μ' : Mu} {ρ : Env}
theorem IR.mono (hm : Mu.le μ μ') {a : AItem} {b : Item} (h : IR μ a b) : IR μ' a b := by
  cases h with
  | code => exact .code
  | inBlock => exact .inBlock
  | inLoop => exact .inLoop
  | inScope => exact .inScope
  | inOps h hi => exact .inOps h hi
  | inRF h => exact .inRF (hm _ _ h)
  | endRF h => exact .endRF (hm _ _ h)
  | beginRound => exact .beginRound
theorem DR.mono (hm : Mu.le μ μ') {a : ADef} {b : Deferred} (h : DR μ ρ a b) : DR μ' ρ a b := by
  cases h with
  | coll h => exact .coll (hm _ _ h)
  | fn h1 h2 => exact .fn (h1.mono hm) (h2.mono hm)
theorem EntR.mono (hm : Mu.le μ μ') {a : AEnt} {b : PanicEntry} (h : EntR μ ρ a b) : EntR μ' ρ a b := by
  cases h with
  | mk h => exact .mk (h.mono hm)
theorem MoR.mono (hm : Mu.le μ μ') {a : AMode} {b : FrameMode} (h : MoR μ ρ a b) : MoR μ' ρ a b := by
  cases h with
  | run => exact .run
  | ret => exact .ret
  | pan h => exact .pan (h.mono fun _ _ => EntR.mono hm)
theorem RoR.mono (hm : Mu.le μ μ') {a b : Option Nat} (h : RoR μ a b) : RoR μ' a b := by
  cases h with
  | none => exact .none
  | some h => exact .some (hm _ _ h)
theorem FR.mono (hm : Mu.le μ μ') {f : AF} {fr : Frame} (h : FR μ ρ f fr) : FR μ' ρ f fr :=
  ⟨h.fn, h.kind, h.ro.mono hm, h.E.mono hm, fun hr => (h.todo hr).mono fun _ _ => IR.mono hm, h.defers.mono fun _ _ => DR.mono hm, h.mode.mono hm⟩
end

/-! ### Steps of the model's machine -/
theorem frame_atR (fr : Frame) (h : fr.mode = .run) : fr = fr.atR ⟨fr.tmps, fr.defers⟩ fr.todo := by
  cases fr; simp only at h; subst h; rfl
section
variable {P : Program} {b : Frame} {a : Act} {k : List Item} {cs : List Frame} {w w' : World} {ops : Array Oper} {i : Nat} {rest : List Nat} {o : Oper}
theorem fin_atR (ho : ops[i]? = some o) (v : Value) : (b.atR a (.inRegion ops (i :: rest) :: k)).finish v = b.atR (a.put o.dst v) (.inRegion ops rest :: k) := by
  rw [Frame.finish_atR, ho]; rfl
theorem st_val (ho : ops[i]? = some o) (hw : Region.wanted o (yielded ops a.tmps) = true) {nx : Next} {v : Value} (hr : (o.semAt b.roundOf a.eval).run P w = .ok nx w') (hnx : (nx = .value v) ∨ (nx = .skip ∧ v = undef)) :
    step P (lone (b.atR a (.inRegion ops (i :: rest) :: k)) cs w) = .next (lone (b.atR (a.put o.dst v) (.inRegion ops rest :: k)) cs w') := by
  have hg := stepGR_op (P := P) (b := b) (k := k) (cs := cs) (w := w) (rest := rest) ho hw
  refine step_lone_go ?_
  rw [hg, ← fin_atR ho]
  rcases hnx with rfl | ⟨rfl, rfl⟩ <;> simp [stepG.apply, hr]
theorem st_enter (ho : ops[i]? = some o) (hw : Region.wanted o (yielded ops a.tmps) = true) {f : FuncId} {args : Array Value} (hr : (o.semAt b.roundOf a.eval).run P w = .ok (.enter f args) w') :
    step P (lone (b.atR a (.inRegion ops (i :: rest) :: k)) cs w) = .next (lone (Frame.enter P f args .normal) (b.atR a (.inRegion ops (i :: rest) :: k) :: cs) w') := by
  have hg := stepGR_op (P := P) (b := b) (k := k) (cs := cs) (w := w) (rest := rest) ho hw
  exact step_lone_go (by rw [hg]; simp [stepG.apply, hr, Frame.atR])
theorem st_round (ho : ops[i]? = some o) (hw : Region.wanted o (yielded ops a.tmps) = true) {l : Nat} {f : FuncId} {tmps : Array Value} {as bd : Code} (hr : (o.semAt b.roundOf a.eval).run P w = .ok (.round l f tmps as bd) w') :
    step P (lone (b.atR a (.inRegion ops (i :: rest) :: k)) cs w) = .next (lone (Frame.round l f tmps as bd .normal) (b.atR a (.inRegion ops (i :: rest) :: k) :: cs) w') := by
  have hg := stepGR_op (P := P) (b := b) (k := k) (cs := cs) (w := w) (rest := rest) ho hw
  exact step_lone_go (by rw [hg]; simp [stepG.apply, hr, Frame.atR])
theorem st_defer (ho : ops[i]? = some o) (hw : Region.wanted o (yielded ops a.tmps) = true) {d : Deferred} (hr : (o.semAt b.roundOf a.eval).run P w = .ok (.defer d) w') :
    step P (lone (b.atR a (.inRegion ops (i :: rest) :: k)) cs w) = .next (lone (b.atR ({ a with defers := d :: a.defers }.put o.dst undef) (.inRegion ops rest :: k)) cs w') := by
  have hg := stepGR_op (P := P) (b := b) (k := k) (cs := cs) (w := w) (rest := rest) ho hw
  have hf := fin_atR (b := b) (a := { a with defers := d :: a.defers }) (k := k) (rest := rest) ho undef
  refine step_lone_go ?_
  rw [hg]
  simp only [stepG.apply, Sem.runT_eq, hr, if_true, GStep.bare_after]
  exact congrArg (fun fr => GStep.go { frame := fr, callers := cs, status := .running, dying := none } w') hf
theorem st_pan (ho : ops[i]? = some o) (hw : Region.wanted o (yielded ops a.tmps) = true) {v : Value} (hr : (o.semAt b.roundOf a.eval).run P w = .halt (.panic v) w') :
    step P (lone (b.atR a (.inRegion ops (i :: rest) :: k)) cs w) = .next (lone { b.atR a (.inRegion ops (i :: rest) :: k) with mode := .panicking [{ v, recovered := false }] } cs w') := by
  have hg := stepGR_op (P := P) (b := b) (k := k) (cs := cs) (w := w) (rest := rest) ho hw
  refine step_lone_go ?_
  rw [hg, ← Frame.raise_atR]
  simp [stepG.apply, hr]
theorem st_recov (ho : ops[i]? = some o) (hw : Region.wanted o (yielded ops a.tmps) = true) (hb : b.roundOf = none) (hr : (execOp a.eval o).run P w = .ok .recover w') {v : Value} {cs' : List Frame}
    (hc : tryRecover (b.atR a (.inRegion ops (i :: rest) :: k)) cs = some (v, cs') ∨ (tryRecover (b.atR a (.inRegion ops (i :: rest) :: k)) cs = none ∧ v = .nilIface ∧ cs' = cs)) :
    step P (lone (b.atR a (.inRegion ops (i :: rest) :: k)) cs w) = .next (lone (b.atR (a.put o.dst v) (.inRegion ops rest :: k)) cs' w') := by
  have hg := stepGR_op (P := P) (b := b) (k := k) (cs := cs) (w := w) (rest := rest) ho hw
  refine step_lone_go ?_
  have hb' : (b.atR a (.inRegion ops (i :: rest) :: k)).roundOf = none := hb
  rw [hg, ← fin_atR ho, hb, Oper.semAt_none]
  rcases hc with hc | ⟨hc, rfl, rfl⟩
  · simp [stepG.apply, hr, hb', hc]
  · simp [stepG.apply, hr, hb', hc]
end
end Vx

/-! One step of the abstract machine. -/
namespace Vx
open Go

noncomputable def putA (nt : Nat) (E : Tr AV) (dst : Option Tmp) (v : AV) : Option (Tr AV) :=
  match dst with
  | none => some E
  | some d => match Nat.ble (Nat.succ d) nt with
    | true => some (E.put d (some v))
    | false => none
noncomputable def wantedA (all : Array Oper) (E : Tr AV) (o : Oper) : Option Bool :=
  match o.guard with
  | none => some true
  | some (j, want) => match nth all.toList j with
    | some oj => match oj.dst with
      | some d => match E.get d with
        | some (.bool b) => some (Bool.rec (motive := fun _ => Bool) (not want) want b)
        | some (.tup _) => some false
        | _ => none
      | none => none
    | none => none
inductive Fin' : Type where
  | ret (v : AV)
  | pan (c : List AEnt)
inductive SR : Type where
  | next (m : AM)
  | fin (fn : FuncId) (f : Fin') (H : Heap)
  | finR (v : AV) (H : Heap)
  | bad
inductive DrawR : Type where
  | ok (E : Tr AV) (H : Heap)
  | pan (E : Tr AV) (c : List AEnt) (H : Heap)
  | bad
abbrev Rg := Nat → Tr AV → Heap → Array Oper → DrawR
noncomputable def enterA (P : Program) (f : FuncId) (args : List AV) (df : Bool) : Option AF :=
  match fnT P f with
  | some F => match F.body with
    | some c => match Nat.ble args.length F.ntmps with
      | true => some ⟨f, df, none, F.ntmps, ofList args 0 .e, [.code c], [], .run⟩
      | false => none
    | none => none
  | none => none
noncomputable def bindA (nt : Nat) (tm : Tr AV) : List Tmp → List AV → Option (Tr AV)
  | [], [] => some tm
  | p :: ps, v :: vs => match Nat.ble (Nat.succ p) nt with
    | true => bindA nt (tm.put p (some v)) ps vs
    | false => none
  | _, _ => none
noncomputable def finishA (c : AF) (v : AV) : Option AF :=
  match c with
  | ⟨fn, df, ro, nt, E, todo, dfs, mode⟩ => match mode with
    | .run => match todo with
      | .inOps all (o :: rest) :: k => match putA nt E o.dst v with
        | some E' => some ⟨fn, df, ro, nt, E', .inOps all rest :: k, dfs, .run⟩
        | none => none
      | .inRF l :: k => some ⟨fn, df, ro, nt, E, .endRF l :: k, dfs, .run⟩
      | _ => none
    | _ => none
/-- A round is left. -/
noncomputable def endRoundA (fn : FuncId) (df : Bool) (ro : Option Nat) (nt : Nat) (E : Tr AV) (todo : List AItem) (dfs : List ADef) (cs : List AF) (H : Heap) (jump : Option Code) : SR :=
  match ro with
  | none => match jump with
    | none => .next ⟨⟨fn, df, none, nt, E, todo, dfs, .ret⟩, cs, H⟩
    | some .ret => .next ⟨⟨fn, df, none, nt, E, todo, dfs, .ret⟩, cs, H⟩
    | _ => .bad
  | some l => match df with
    | true => .bad
    | false => match H.tr.get l with
      | some (.loop _ _ fn' nt' tm ps as bd d) => match jump with
        | none => match cs with
          | [] => .finR (.bool true) (H.set l (.loop .ready none fn' nt' tm ps as bd d))
          | c :: cs' => match finishA c (.bool true) with
            | some c' => .next ⟨c', cs', H.set l (.loop .ready none fn' nt' tm ps as bd d)⟩
            | none => .bad
        | some j => match cs with
          | [] => .finR (.bool false) (H.set l (.loop .done (some j) fn' nt' tm ps as bd d))
          | c :: cs' => match finishA c (.bool false) with
            | some c' => .next ⟨c', cs', H.set l (.loop .done (some j) fn' nt' tm ps as bd d)⟩
            | none => .bad
      | _ => .bad
noncomputable def exitToA (id : Nat) : List AItem → Option (List AItem)
  | [] => none
  | it :: k => match it with
    | .inBlock j => match Nat.beq j id with
      | true => some k
      | false => exitToA id k
    | _ => exitToA id k
noncomputable def gotoA (l : Nat) : List AItem → Option (List AItem)
  | [] => none
  | it :: k => match it with
    | .inScope b => match findLabel b l with
      | some r => some (.code r :: .inScope b :: k)
      | none => gotoA l k
    | _ => gotoA l k
noncomputable def opStep (P : Program) (D : Dec) (fn : FuncId) (df : Bool) (ro : Option Nat) (nt : Nat) (E : Tr AV) (all : Array Oper) (o : Oper) (rest : List Oper) (k : List AItem) (dfs : List ADef) (cs : List AF) (H : Heap) : SR :=
  match wantedA all E o with
  | none => .bad
  | some false => match putA nt E o.dst (.tup []) with
    | some E' => .next ⟨⟨fn, df, ro, nt, E', .inOps all rest :: k, dfs, .run⟩, cs, H⟩
    | none => .bad
  | some true => match opA P D E H o.op with
    | .val v H' => match putA nt E o.dst v with
      | some E' => .next ⟨⟨fn, df, ro, nt, E', .inOps all rest :: k, dfs, .run⟩, cs, H'⟩
      | none => .bad
    | .call f args => match plugA D f args with
      | some v => match putA nt E o.dst v with
        | some E' => .next ⟨⟨fn, df, ro, nt, E', .inOps all rest :: k, dfs, .run⟩, cs, H⟩
        | none => .bad
      | none => match D.hp f args H with
        | some (v, H') => match putA nt E o.dst v with
          | some E' => .next ⟨⟨fn, df, ro, nt, E', .inOps all rest :: k, dfs, .run⟩, cs, H'⟩
          | none => .bad
        | none => match enterA P f args false with
          | some g => .next ⟨g, ⟨fn, df, ro, nt, E, .inOps all (o :: rest) :: k, dfs, .run⟩ :: cs, H⟩
          | none => .bad
    | .yield kk args => match H.tr.get kk with
      | some (.loop _ _ fn' nt' tm ps as bd _) => match bindA nt' tm ps.toList args with
        | some E' => .next ⟨⟨fn', false, some kk, nt', E', [.code as, .beginRound, .code bd], [], .run⟩, ⟨fn, df, ro, nt, E, .inOps all (o :: rest) :: k, dfs, .run⟩ :: cs, H⟩
        | none => .bad
      | _ => .bad
    | .dfr d => match ro with
      | some _ => .bad
      | none => match putA nt E o.dst (.tup []) with
        | some E' => .next ⟨⟨fn, df, none, nt, E', .inOps all rest :: k, d :: dfs, .run⟩, cs, H⟩
        | none => .bad
    | .recov => match ro with
      | some _ => .bad
      | none => match df with
        | false => match putA nt E o.dst .nili with
          | some E' => .next ⟨⟨fn, false, none, nt, E', .inOps all rest :: k, dfs, .run⟩, cs, H⟩
          | none => .bad
        | true => match cs with
          | [] => .bad
          | ⟨cfn, cdf, cro, cnt, cE, ctodo, cdfs, cmode⟩ :: cs' => match cmode with
            | .run => .bad
            | .ret => match putA nt E o.dst .nili with
              | some E' => .next ⟨⟨fn, true, none, nt, E', .inOps all rest :: k, dfs, .run⟩, ⟨cfn, cdf, cro, cnt, cE, ctodo, cdfs, .ret⟩ :: cs', H⟩
              | none => .bad
            | .pan ch => match ch with
              | ⟨v, false⟩ :: older => match putA nt E o.dst v with
                | some E' => .next ⟨⟨fn, true, none, nt, E', .inOps all rest :: k, dfs, .run⟩, ⟨cfn, cdf, cro, cnt, cE, ctodo, cdfs, .pan (⟨v, true⟩ :: older)⟩ :: cs', H⟩
                | none => .bad
              | _ => .bad
    | .pan v => .next ⟨⟨fn, df, ro, nt, E, .inOps all (o :: rest) :: k, dfs, .pan [⟨v, false⟩]⟩, cs, H⟩
    | .bad => .bad
noncomputable def codeStep (P : Program) (rg : Rg) (fn : FuncId) (df : Bool) (ro : Option Nat) (nt : Nat) (E : Tr AV) (c : Code) (k : List AItem) (dfs : List ADef) (cs : List AF) (H : Heap) : SR :=
  match c with
  | .skip => .next ⟨⟨fn, df, ro, nt, E, k, dfs, .run⟩, cs, H⟩
  | .region _ ops draw => match draw with
    | false => .next ⟨⟨fn, df, ro, nt, E, .inOps ops ops.toList :: k, dfs, .run⟩, cs, H⟩
    | true => match rg nt E H ops with
      | .ok E' H' => .next ⟨⟨fn, df, ro, nt, E', k, dfs, .run⟩, cs, H'⟩
      | .pan E' ch H' => .next ⟨⟨fn, df, ro, nt, E', k, dfs, .pan ch⟩, cs, H'⟩
      | .bad => .bad
  | .seq a b => .next ⟨⟨fn, df, ro, nt, E, .code a :: .code b :: k, dfs, .run⟩, cs, H⟩
  | .cond x a b => match ev E x with
    | some (.bool t) => match t with
      | true => .next ⟨⟨fn, df, ro, nt, E, .code a :: k, dfs, .run⟩, cs, H⟩
      | false => .next ⟨⟨fn, df, ro, nt, E, .code b :: k, dfs, .run⟩, cs, H⟩
    | _ => .bad
  | .block id b => .next ⟨⟨fn, df, ro, nt, E, .code b :: .inBlock id :: k, dfs, .run⟩, cs, H⟩
  | .loop b => .next ⟨⟨fn, df, ro, nt, E, .code b :: .inLoop b :: k, dfs, .run⟩, cs, H⟩
  | .rangeFunc x ps as bd => match ro with
    | some _ => .bad
    | none => match ev E x with
      | some (.fn g first cap) => match bodied P g with
        | true => match enterA P g (first ++ [.yld (Nat.succ H.next)] ++ cap) false with
          | some nf => .next ⟨nf, ⟨fn, df, none, nt, E, .inRF (Nat.succ H.next) :: k, .coll H.next :: dfs, .run⟩ :: cs, (H.add .dfr).add (.loop .ready none fn nt E ps as bd H.next)⟩
          | none => .bad
        | false => .bad
      | _ => .bad
  | .exit id => match exitToA id k with
    | some k' => .next ⟨⟨fn, df, ro, nt, E, k', dfs, .run⟩, cs, H⟩
    | none => match ro with
      | some _ => endRoundA fn df ro nt E k dfs cs H (some (.exit id))
      | none => .bad
  | .label _ => .next ⟨⟨fn, df, ro, nt, E, k, dfs, .run⟩, cs, H⟩
  | .scope b => .next ⟨⟨fn, df, ro, nt, E, .code b :: .inScope b :: k, dfs, .run⟩, cs, H⟩
  | .goto l => match gotoA l k with
    | some k' => .next ⟨⟨fn, df, ro, nt, E, k', dfs, .run⟩, cs, H⟩
    | none => .bad
  | .ret => endRoundA fn df ro nt E k dfs cs H (some .ret)
  | _ => .bad
noncomputable def resA (P : Program) (E : Tr AV) (H : Heap) : List ResultVar → Option (List AV)
  | [] => some []
  | r :: rs => match r with
    | .tmp t => match E.get t with
      | some v => match resA P E H rs with
        | some l => some (v :: l)
        | none => none
      | none => none
    | .cell t ty => match E.get t with
      | some x => match loadA P H ty x with
        | some v => match resA P E H rs with
          | some l => some (v :: l)
          | none => none
        | none => none
      | none => none
noncomputable def resultA (P : Program) (fn : FuncId) (E : Tr AV) (H : Heap) : Option AV :=
  match fnT P fn with
  | some F => match resA P E H F.results.toList with
    | some l => match l with
      | [v] => some v
      | l => some (.tup l)
    | none => none
  | none => none
noncomputable def settleA (m : AMode) : AMode :=
  match m with
  | .pan ch => match ch with
    | ⟨_, true⟩ :: _ => .ret
    | ch => .pan ch
  | m => m
noncomputable def raisedA (m : AMode) (ch : List AEnt) : AMode :=
  match m with
  | .pan old => .pan (ch ++ old)
  | _ => .pan ch
noncomputable def outStep (P : Program) (fn : FuncId) (df : Bool) (ro : Option Nat) (nt : Nat) (E : Tr AV) (todo : List AItem) (dfs : List ADef) (mode : AMode) (cs : List AF) (H : Heap) : SR :=
  match dfs with
  | d :: ds => match d with
    | .coll k => match H.tr.get k with
      | some .dfr => .next ⟨⟨fn, df, ro, nt, E, todo, ds, mode⟩, cs, H.kill k⟩
      | _ => .bad
    | .fn f args cap => match bodied P f with
      | true => match enterA P f (args ++ cap) true with
        | some g => .next ⟨g, ⟨fn, df, ro, nt, E, todo, ds, mode⟩ :: cs, H⟩
        | none => .bad
      | false => .bad
  | [] => match mode with
    | .run => .bad
    | .ret => match resultA P fn E H with
      | none => .bad
      | some v => match cs with
        | [] => match df with
          | false => .fin fn (.ret v) H
          | true => .bad
        | c :: cs' => match df with
          | false => match finishA c v with
            | some c' => .next ⟨c', cs', H⟩
            | none => .bad
          | true => match c with
            | ⟨cfn, cdf, cro, cnt, cE, ctodo, cdfs, cmode⟩ => match cmode with
              | .run => .bad
              | cmode => .next ⟨⟨cfn, cdf, cro, cnt, cE, ctodo, cdfs, settleA cmode⟩, cs', H⟩
    | .pan ch => match fnT P fn with
      | none => .bad
      | some _ => match cs with
        | [] => .fin fn (.pan ch) H
        | ⟨cfn, cdf, cro, cnt, cE, ctodo, cdfs, cmode⟩ :: cs' => .next ⟨⟨cfn, cdf, cro, cnt, cE, ctodo, cdfs, raisedA cmode ch⟩, cs', H⟩
noncomputable def astep (P : Program) (D : Dec) (rg : Rg) (m : AM) : SR :=
  match m with
  | ⟨⟨fn, df, ro, nt, E, todo, dfs, mode⟩, cs, H⟩ => match mode with
    | .run => match todo with
      | [] => endRoundA fn df ro nt E [] dfs cs H none
      | it :: k => match it with
        | .code c => codeStep P rg fn df ro nt E c k dfs cs H
        | .inBlock _ => .next ⟨⟨fn, df, ro, nt, E, k, dfs, .run⟩, cs, H⟩
        | .inScope _ => .next ⟨⟨fn, df, ro, nt, E, k, dfs, .run⟩, cs, H⟩
        | .inLoop b => .next ⟨⟨fn, df, ro, nt, E, .code b :: .inLoop b :: k, dfs, .run⟩, cs, H⟩
        | .inOps all rest => match rest with
          | [] => .next ⟨⟨fn, df, ro, nt, E, k, dfs, .run⟩, cs, H⟩
          | o :: rest => opStep P D fn df ro nt E all o rest k dfs cs H
        | .inRF _ => .bad
        | .endRF l => match H.tr.get l with
          | some (.loop st pe fn' nt' tm ps as bd d) => match st with
            | .busy => .bad
            | _ => match pe with
              | none => .next ⟨⟨fn, df, ro, nt, E, k, dfs, .run⟩, cs, H.set l (.loop .exhausted none fn' nt' tm ps as bd d)⟩
              | some j => .next ⟨⟨fn, df, ro, nt, E, .code j :: k, dfs, .run⟩, cs, H.set l (.loop .exhausted (some j) fn' nt' tm ps as bd d)⟩
          | _ => .bad
        | .beginRound => match ro with
          | none => .bad
          | some l => match H.tr.get l with
            | some (.loop st pe fn' nt' tm ps as bd d) => match st with
              | .ready => .next ⟨⟨fn, df, ro, nt, E, k, dfs, .run⟩, cs, H.set l (.loop .busy pe fn' nt' tm ps as bd d)⟩
              | _ => .bad
            | _ => .bad
    | mode => outStep P fn df ro nt E todo dfs mode cs H
end Vx

/-! A step of the abstract machine is so many steps of the model's. -/
namespace Vx
open Go
section
variable {P : Program} {G : Gd} {μ μ' : Mu} {ρ : Env} {H : Heap} {w : World}

theorem get_ofList : ∀ (l : List AV) (i : Nat) (t : Tr AV) (j : Nat), (ofList l i t).get j = if h : i ≤ j ∧ j - i < l.length then some (l[j - i]'h.2) else t.get j
  | [], i, t, j => by simp [ofList]
  | v :: r, i, t, j => by
    simp only [ofList]
    rw [get_ofList r (Nat.succ i)]
    by_cases h1 : i + 1 ≤ j ∧ j - (i + 1) < r.length
    · rw [dif_pos h1, dif_pos ⟨by omega, by simp; omega⟩]
      have : j - i = (j - (i + 1)) + 1 := by omega
      simp [this]
    · rw [dif_neg h1, Tr.get_put]
      by_cases h2 : j = i
      · subst h2; simp
      · rw [if_neg h2, dif_neg (fun h => h1 ⟨by omega, by have := h.2; simp at this; omega⟩)]
theorem enter_ok {f : FuncId} {args : List AV} {args' : List Value} {df : Bool} {g : AF} (h : enterA P f args df = some g) (hv : VRs μ ρ args args') : FR μ ρ g (Frame.enter P f args'.toArray (kindOf df)) ∧ bodied P f = true ∧ g.ro = none ∧ g.df = df ∧ g.fn = f := by
  unfold enterA at h
  rw [fnT_eq] at h
  split at h
  · rename_i F hF
    split at h
    · rename_i c hc
      split at h
      · rename_i hle
        have hle := Nat.le_of_ble_eq_true hle
        cases h
        have hlen := hv.length
        refine ⟨⟨rfl, rfl, .none, ⟨?_, fun t v hv' => ?_⟩, fun _ => ?_, .nil, .run⟩, by unfold bodied; simp [fnT_eq, hF, hc], rfl, rfl, rfl⟩
        · simp [Frame.enter, hF]; omega
        · simp only [get_ofList] at hv'
          split at hv'
          · rename_i hb
            cases hv'
            obtain ⟨v', h1, h2⟩ := hv.get (List.getElem?_eq_getElem hb.2)
            simp only [Nat.sub_zero] at h1 h2 ⊢
            have e : (Frame.enter P f args'.toArray (kindOf df)).tmps.getD t undef = v' := by
              rw [Array.getD_eq_getD_getElem?]
              simp only [Frame.enter]
              rw [Array.getElem?_append_left (by simp; omega)]
              simp [h1]
            rw [e]; exact h2
          · rw [Tr.get_e] at hv'; cases hv'
        · have e : (Frame.enter P f args'.toArray (kindOf df)).todo = [.code c] := by simp [Frame.enter, hF, hc]
          rw [e]; exact .cons .code .nil
      · cases h
    · cases h
  · cases h
theorem bind_ok : ∀ (ps : List Tmp) (vs : List AV) (vs' : List Value) (nt : Nat) (tm E : Tr AV) (tmps : Array Value), ER μ ρ nt tm tmps → VRs μ ρ vs vs' → bindA nt tm ps vs = some E →
    ps.length = vs'.length ∧ ER μ ρ nt E ((ps.zip vs').foldl (fun tmps (t, a) => tmps.setIfInBounds t a) tmps)
  | [], [], _, nt, tm, E, tmps, hE, .nil, h => by simp only [bindA, Option.some.injEq] at h; subst h; exact ⟨rfl, hE⟩
  | p :: ps, v :: vs, _, nt, tm, E, tmps, hE, .cons hv hs, h => by
    rename_i v' vs'
    simp only [bindA] at h
    split at h
    · rename_i hp
      obtain ⟨h1, h2⟩ := bind_ok ps vs vs' nt _ E _ (hE.put hv (Nat.le_of_ble_eq_true hp)) hs h
      exact ⟨by simp [h1], h2⟩
    · cases h
  | [], v :: vs, _, nt, tm, E, tmps, hE, .cons hv hs, h => by simp [bindA] at h
  | p :: ps, [], _, nt, tm, E, tmps, hE, .nil, h => by simp [bindA] at h
theorem put_ok {nt : Nat} {E E' : Tr AV} {dst : Option Tmp} {v : AV} {v' : Value} {a : Act} (h : putA nt E dst v = some E') (hE : ER μ ρ nt E a.tmps) (hv : VR μ ρ v v') : ER μ ρ nt E' (a.put dst v').tmps ∧ (a.put dst v').defers = a.defers := by
  unfold putA at h
  split at h
  · cases h; exact ⟨hE, rfl⟩
  · split at h
    · rename_i hd; cases h; exact ⟨hE.put hv (Nat.le_of_ble_eq_true hd), rfl⟩
    · cases h
/-- The next operation of a region. -/
theorem ops_next {all : Array Oper} {o : Oper} {rest : List Oper} {i : Nat} (h : all.toList.drop i = o :: rest) (hi : i ≤ all.size) :
    all[i]? = some o ∧ i < all.size ∧ List.range' i (all.size - i) = i :: List.range' (i + 1) (all.size - (i + 1)) ∧ all.toList.drop (i + 1) = rest := by
  have hlt : i < all.size := by
    refine Nat.lt_of_le_of_ne hi fun e => ?_
    rw [List.drop_eq_nil_of_le (by simp [e])] at h; cases h
  have h0 : all.toList[i]? = some o := by
    have := congrArg (fun l => l[0]?) h
    simpa using this
  refine ⟨by simpa using h0, hlt, ?_, ?_⟩
  · obtain ⟨n, hn⟩ : ∃ n, all.size - i = n + 1 := ⟨all.size - i - 1, by omega⟩
    rw [hn, List.range'_succ]
    congr 2; omega
  · have := congrArg List.tail h
    simpa using this
theorem finish_ok {c c' : AF} {v : AV} {v' : Value} {fr : Frame} (h : finishA c v = some c') (hc : FR μ ρ c fr) (hv : VR μ ρ v v') : FR μ ρ c' (fr.finish v') := by
  obtain ⟨fn, df, ro, nt, E, todo, dfs, mode⟩ := c
  obtain ⟨h1, h2, h3, h4, h5, h6, h7⟩ := hc
  unfold finishA at h
  dsimp only at h h1 h2 h3 h4 h5 h6 h7
  split at h
  · have h5 := h5 rfl
    have hm : fr.mode = .run := by generalize fr.mode = m at h7; cases h7; rfl
    clear h7
    split at h
    · rename_i all o rest k _
      split at h
      · rename_i E' hp
        cases h
        cases ht : fr.todo with
        | nil => rw [ht] at h5; cases h5
        | cons it k' =>
          rw [ht] at h5
          cases h5 with
          | cons hi hk =>
          cases hi with
          | @inOps _ _ i hd hle =>
          obtain ⟨e1, e2, e3, e4⟩ := ops_next hd hle
          rw [e3] at ht
          have hfr := frame_atR fr hm
          rw [ht] at hfr
          have hfin : fr.finish v' = fr.atR ((Act.mk fr.tmps fr.defers).put o.dst v') (.inRegion all (List.range' (i + 1) (all.size - (i + 1))) :: k') := by
            rw [hfr, fin_atR e1]; rfl
          rw [hfin]
          obtain ⟨p1, p2⟩ := put_ok (a := ⟨fr.tmps, fr.defers⟩) hp h4 hv
          exact ⟨h1, h2, h3, p1, fun _ => .cons (.inOps e4 e2) hk, by show L2 _ _ ((Act.mk fr.tmps fr.defers).put o.dst v').defers; rw [p2]; exact h6, .run⟩
      · cases h
    · rename_i l k
      cases h
      cases ht : fr.todo with
      | nil => rw [ht] at h5; cases h5
      | cons it k' =>
        rw [ht] at h5
        cases h5 with
        | cons hi hk =>
        cases hi with
        | @inRF _ bl _ hl =>
        have hfin : fr.finish v' = { fr with todo := .endRangeFunc bl :: k' } := by unfold Frame.finish; rw [ht]
        rw [hfin]
        exact ⟨h1, h2, h3, h4, fun _ => .cons (.endRF hl) hk, h6, by rw [hm]; exact .run⟩
    · cases h
  · cases h
theorem exitTo_ok {id : Nat} : ∀ {k k2 : List AItem} {k' : List Item}, L2 (IR μ) k k' → exitToA id k = some k2 → ∃ k2', exitTo id k' = some k2' ∧ L2 (IR μ) k2 k2'
  | _, _, _, .nil, h => by simp [exitToA] at h
  | _, _, _, .cons hi hk, h => by
    rename_i it it' k k'
    have other : (∀ j, it ≠ .inBlock j) → (∀ j, it' ≠ .inBlock j) → exitToA id (it :: k) = exitToA id k ∧ exitTo id (it' :: k') = exitTo id k' := fun h1 h2 => by
      constructor
      · cases it <;> first | rfl | exact absurd rfl (h1 _)
      · cases it' <;> first | rfl | exact absurd rfl (h2 _)
    cases hi with
    | inBlock =>
      rename_i j
      simp only [exitToA] at h
      split at h
      · rename_i hj
        cases h
        have := Nat.eq_of_beq_eq_true hj
        exact ⟨k', by simp [exitTo, this], hk⟩
      · rename_i hj
        obtain ⟨k2', q1, q2⟩ := exitTo_ok hk h
        have hne : ¬ j = id := fun e => by subst e; simp at hj
        exact ⟨k2', by simp [exitTo, hne, q1], q2⟩
    | _ =>
      obtain ⟨e1, e2⟩ := other (by simp) (by simp)
      rw [e1] at h
      rw [e2]
      exact exitTo_ok hk h
theorem gotoA_ok {l : Nat} : ∀ {k k2 : List AItem} {k' : List Item}, L2 (IR μ) k k' → gotoA l k = some k2 → ∃ k2', gotoIn l k' = some k2' ∧ L2 (IR μ) k2 k2'
  | _, _, _, .nil, h => by simp [gotoA] at h
  | _, _, _, .cons hi hk, h => by
    rename_i it it' k k'
    cases hi with
    | inScope =>
      rename_i b
      simp only [gotoA] at h
      split at h
      · rename_i r hr
        cases h
        exact ⟨_, by simp only [gotoIn, hr], .cons .code (.cons .inScope hk)⟩
      · rename_i hr
        obtain ⟨k2', q1, q2⟩ := gotoA_ok hk h
        exact ⟨k2', by simp only [gotoIn, hr, q1], q2⟩
    | _ =>
      simp only [gotoA] at h
      simp only [gotoIn]
      exact gotoA_ok hk h
theorem exitTo_none {id : Nat} : ∀ {k : List AItem} {k' : List Item}, L2 (IR μ) k k' → exitToA id k = none → exitTo id k' = none
  | _, _, .nil, h => rfl
  | _, _, .cons hi hk, h => by
    rename_i it it' k k'
    cases hi with
    | inBlock =>
      rename_i j
      simp only [exitToA] at h
      split at h
      · cases h
      · rename_i hj
        have hne : ¬ j = id := fun e => by subst e; simp at hj
        simp [exitTo, hne, exitTo_none hk h]
    | _ =>
      simp only [exitToA] at h
      simp only [exitTo]
      exact exitTo_none hk h
theorem wanted_ok {nt : Nat} {all : Array Oper} {E : Tr AV} {o : Oper} {tmps : Array Value} (hE : ER μ ρ nt E tmps) {b : Bool} (h : wantedA all E o = some b) : Region.wanted o (yielded all tmps) = b := by
  unfold wantedA at h
  split at h
  · rename_i hg; cases h; simp [Region.wanted, hg]
  · rename_i j want hg
    split at h
    · rename_i oj hj
      rw [nth_eq] at hj
      have hj' : all[j]? = some oj := by simpa using hj
      split at h
      · rename_i d hd
        have key : ∀ v, E.get d = some v → ∃ v', VR μ ρ v v' ∧ tmps.getD d undef = v' := fun v hv => ⟨_, hE.2 d v hv, rfl⟩
        have hlook : ∀ v', tmps.getD d undef = v' → (tmps[d]? = some v' ∨ (tmps[d]? = none ∧ v' = undef)) := fun v' hv => by
          rw [Array.getD_eq_getD_getElem?] at hv
          cases ht : tmps[d]? with
          | none => rw [ht] at hv; exact .inr ⟨rfl, hv.symm⟩
          | some u => rw [ht] at hv; exact .inl (by rw [← hv]; rfl)
        split at h
        · rename_i bb hget
          cases h
          obtain ⟨v', hv1, hv2⟩ := key _ hget
          cases hv1
          rcases hlook _ hv2 with h1 | ⟨_, h1⟩
          · simp [Region.wanted, hg, yielded, hj', hd, h1]
            cases bb <;> cases want <;> rfl
          · simp [undef] at h1
        · rename_i l hget
          cases h
          obtain ⟨v', hv1, hv2⟩ := key _ hget
          cases hv1
          rcases hlook _ hv2 with h1 | ⟨h1, _⟩
          · simp [Region.wanted, hg, yielded, hj', hd, h1]
          · simp [Region.wanted, hg, yielded, hj', hd, h1]
        · cases h
      · cases h
    · cases h
theorem opA_not_defer {D : Dec} {E : Tr AV} {op : Op} {r : OpR} (h : opA P D E H op = r) (hb : r ≠ .bad) (hd : ∀ d, r ≠ .dfr d) : ∀ c, op ≠ .defer c := fun c e => by
  subst e
  simp only [opA] at h
  split at h
  · exact hb h.symm
  · split at h
    · split at h
      · exact hd _ h.symm
      · exact hb h.symm
    · exact hb h.symm
theorem L2.append_inv {α β : Type} {R : α → β → Prop} : ∀ {l : List α} {r : List β}, L2 R l r → l.length = r.length
  | _, _, .nil => rfl
  | _, _, .cons _ hs => by simp [hs.append_inv]
theorem put_grown {k b n : Nat} (hG : GR G μ ρ H w) {o0 o : AObj} (hk : H.tr.get k = some o0) (hb : μ k = some (b, n)) {x : Obj} (ho : OR μ ρ n x o) : GR G μ ρ (H.set k o) (w.putObj b x) ∧ Fr G w (w.putObj b x) :=
  hG.turn hk hb (fun b' hne => World.putObj_heap_other hne) (World.putObj_heap_same (hG.dom _ _ _ hb).2) (by simp) ho rfl rfl rfl
/-- A block turns and is given up. -/
theorem GR.drop {w' : World} (h : GR G μ ρ H w) {k b n : Nat} {o0 : AObj} (hk : H.tr.get k = some o0) (hb : μ k = some (b, n)) (hother : ∀ b', b' ≠ b → w'.heap[b']? = w.heap[b']?)
    (hsz : w'.heap.size = w.heap.size) (hos : w'.os = w.os) (ht : w'.tape = w.tape) (hout : w'.output = w.output) : GR G μ ρ (H.kill k) w' ∧ Fr G w w' := by
  obtain ⟨b1, n1, x1, e1, hg, _, _⟩ := h.obj k o0 hk
  rw [hb] at e1; cases e1
  have g : ∀ j oj, (H.kill k).tr.get j = some oj → j ≠ k ∧ H.tr.get j = some oj := fun j oj hj => by
    simp only [Heap.kill, Tr.get_put] at hj
    by_cases e : j = k
    · rw [if_pos e] at hj; cases hj
    · rw [if_neg e] at hj; exact ⟨e, hj⟩
  refine ⟨⟨fun k' o hk' => ?_, fun k1 k2 o1 o2 b m1 m2 h1 h2 => h.inj _ _ _ _ _ _ _ (g _ _ h1).2 (g _ _ h2).2, fun k' b' n' hk' => by rw [hsz]; exact h.dom _ _ _ hk', fun b' hb' => by rw [hsz]; exact h.glt b' hb', h.rid, h.inp.fr h.glt fun b' hb' _ => hother b' (fun e => hg (e ▸ hb'))⟩,
    ⟨hos, ht, hout, by omega, fun b' hb' _ => hother b' (fun e => hg (e ▸ hb'))⟩⟩
  obtain ⟨e, hj⟩ := g _ _ hk'
  obtain ⟨b2, n2, x2, h1, h2, h3, h4⟩ := h.obj k' o hj
  refine ⟨b2, n2, x2, h1, h2, (hother b2 ?_).trans h3, h4⟩
  intro e2; subst e2
  exact e (h.inj k' k _ _ _ _ _ hj hk h1 hb)
/-- The object of a known number. -/
theorem GR.loopAt (hG : GR G μ ρ H w) {k : Nat} {st : LoopState} {pe : Option Code} {fn : FuncId} {nt : Nat} {tm : Tr AV} {ps : Array Tmp} {as bd : Code} {d b n : Nat} (hk : H.tr.get k = some (.loop st pe fn nt tm ps as bd d)) (hb : μ k = some (b, n)) :
    ∃ (tmps : Array Value) (D m : Nat), μ d = some (D, m) ∧ ER μ ρ nt tm tmps ∧ w.heap[b]? = some (.loop { state := st, pending := pe, fn := fn, tmps := tmps, params := ps, assign := as, body := bd, defers := D }) := by
  obtain ⟨b1, n1, x, e1, _, e3, tmps, D, m, h1, h2, rfl⟩ := hG.obj k _ hk
  rw [hb] at e1; cases e1
  exact ⟨tmps, D, m, h1, h2, e3⟩
end
end Vx

/-! A step of the abstract machine is so many steps of the model's: the cases. -/
namespace Vx
open Go

def SROK (P : Program) (G : Gd) (μ : Mu) (ρ : Env) (cs0 : List Frame) (fr : Frame) (cs : List Frame) (w : World) : SR → Prop
  | .next m' => ∃ fr' cs' w' μ', Steps P (lone fr cs w) (lone fr' cs' w') ∧ Mu.le μ μ' ∧ MR G μ' ρ m' cs0 fr' cs' w' ∧ Fr G w w'
  | .fin fn (.ret v) H' => ∃ v', fr.fn = fn ∧ fr.leaving P w (.returned v') ∧ VR μ ρ v v' ∧ GR G μ ρ H' w ∧ cs = cs0
  | .fin fn (.pan c) H' => ∃ c', fr.fn = fn ∧ fr.leaving P w (.panicked c') ∧ L2 (EntR μ ρ) c c' ∧ GR G μ ρ H' w ∧ cs = cs0
  | .finR v H' => ∃ v' w', VR μ ρ v v' ∧ GR G μ ρ H' w' ∧ Fr G w w' ∧ cs = cs0 ∧ ∀ c cs', cs0 = c :: cs' → step P (lone fr cs w) = .next (lone (c.finish v') cs' w')
  | .bad => True
/-- What walks the regions that draw their order is right. -/
def RgOK (P : Program) (ρ : Env) (rg : Rg) : Prop :=
  ∀ (G : Gd) (μ : Mu) (H : Heap) (w : World) (nt : Nat) (E : Tr AV) (b : Frame) (a : Act) (k : List Item) (cs : List Frame) (id : Nat) (ops : Array Oper), ER μ ρ nt E a.tmps → GR G μ ρ H w →
    match rg nt E H ops with
    | .ok E' H' => ∃ a' w' μ', Steps P (lone (b.atR a (.code (.region id ops true) :: k)) cs w) (lone (b.atR a' k) cs w') ∧ a'.defers = a.defers ∧ Mu.le μ μ' ∧ ER μ' ρ nt E' a'.tmps ∧ GR G μ' ρ H' w' ∧ Fr G w w'
    | .pan E' ch H' => ∃ (a' : Act) (w' : World) (μ' : Mu) (todo' : List Item) (ch' : List PanicEntry), Steps P (lone (b.atR a (.code (.region id ops true) :: k)) cs w) (lone { b.atR a' todo' with mode := .panicking ch' } cs w') ∧
        a'.defers = a.defers ∧ Mu.le μ μ' ∧ ER μ' ρ nt E' a'.tmps ∧ L2 (EntR μ' ρ) ch ch' ∧ GR G μ' ρ H' w' ∧ Fr G w w'
    | .bad => True

/-- The frame at hand and its surroundings, while it runs. -/
structure At (G : Gd) (μ : Mu) (ρ : Env) (fn : FuncId) (df : Bool) (ro : Option Nat) (nt : Nat) (E : Tr AV) (dfs : List ADef) (csA : List AF) (H : Heap) (cs0 : List Frame) (b : Frame) (a : Act) (cs : List Frame) (w : World) : Prop where
  fn : b.fn = fn
  kind : b.kind = kindOf df
  ro : RoR μ ro b.roundOf
  E : ER μ ρ nt E a.tmps
  defers : L2 (DR μ ρ) dfs a.defers
  cs : ∃ cs1, cs = cs1 ++ cs0 ∧ L2 (FR μ ρ) csA cs1
  H : GR G μ ρ H w

section
variable {P : Program} {G : Gd} {μ : Mu} {ρ : Env} {H : Heap} {w : World} {fn : FuncId} {df : Bool} {ro : Option Nat} {nt : Nat} {E : Tr AV} {dfs : List ADef} {csA : List AF} {cs0 cs : List Frame} {b : Frame} {a : Act}

theorem At.go (h : At G μ ρ fn df ro nt E dfs csA H cs0 b a cs w) {a' : Act} {k : List AItem} {k' : List Item} (hk : L2 (IR μ) k k') {E' : Tr AV} {w' : World} {H' : Heap} {μ' : Mu} {fr : Frame} (hs : Steps P (lone fr cs w) (lone (b.atR a' k') cs w'))
    (hm : Mu.le μ μ') (hE : ER μ' ρ nt E' a'.tmps) (hd : a'.defers = a.defers) (hH : GR G μ' ρ H' w') (hF : Fr G w w') : SROK P G μ ρ cs0 fr cs w (.next ⟨⟨fn, df, ro, nt, E', k, dfs, .run⟩, csA, H'⟩) := by
  obtain ⟨cs1, e1, e2⟩ := h.cs
  exact ⟨_, _, _, μ', hs, hm, ⟨⟨h.fn, h.kind, h.ro.mono hm, hE, fun _ => hk.mono fun _ _ => IR.mono hm, by show L2 _ _ a'.defers; rw [hd]; exact h.defers.mono fun _ _ => DR.mono hm, .run⟩,
    ⟨cs1, e1, e2.mono fun _ _ => FR.mono hm⟩, hH⟩, hF⟩
/-- A step that only turns what is to be done. -/
theorem At.turn (h : At G μ ρ fn df ro nt E dfs csA H cs0 b a cs w) {k : List AItem} {k' : List Item} (hk : L2 (IR μ) k k') {fr : Frame} (hs : step P (lone fr cs w) = .next (lone (b.atR a k') cs w)) :
    SROK P G μ ρ cs0 fr cs w (.next ⟨⟨fn, df, ro, nt, E, k, dfs, .run⟩, csA, H⟩) :=
  h.go hk (.one hs) (Mu.le_refl _) h.E rfl h.H (Fr.refl _ _)
/-- The frame at hand as a caller. -/
theorem At.asCaller (h : At G μ ρ fn df ro nt E dfs csA H cs0 b a cs w) {k : List AItem} {k' : List Item} (hk : L2 (IR μ) k k') : FR μ ρ ⟨fn, df, ro, nt, E, k, dfs, .run⟩ (b.atR a k') :=
  ⟨h.fn, h.kind, h.ro, h.E, fun _ => hk, h.defers, .run⟩

theorem endRound_ok (h : At G μ ρ fn df ro nt E dfs csA H cs0 b a cs w) (hdf : ro ≠ none → dfs = [] ∨ True) {todo : List AItem} {k' : List Item} (jump : Option Code)
    (hnone : ro = none → (jump = none ∨ jump = some .ret) → step P (lone (b.atR a k') cs w) = .next (lone { b.atR a k' with mode := .returning } cs w))
    (hsome : ∀ l v w' (c : Frame) cs', b.roundOf = some l → b.kind = .normal → cs = c :: cs' → (Instr.endRound l jump).run P w = .ok v w' → step P (lone (b.atR a k') cs w) = .next (lone (c.finish v) cs' w')) :
    SROK P G μ ρ cs0 (b.atR a k') cs w (endRoundA fn df ro nt E todo dfs csA H jump) := by
  unfold endRoundA
  have retting : ro = none → (jump = none ∨ jump = some .ret) → SROK P G μ ρ cs0 (b.atR a k') cs w (.next ⟨⟨fn, df, none, nt, E, todo, dfs, .ret⟩, csA, H⟩) := fun hro hj => by
    obtain ⟨cs1, e1, e2⟩ := h.cs
    have hr := h.ro
    rw [hro] at hr
    exact ⟨_, _, _, μ, .one (hnone hro hj), Mu.le_refl _, ⟨⟨h.fn, h.kind, hr, h.E, fun hc => (by cases hc), h.defers, .ret⟩, ⟨cs1, e1, e2⟩, h.H⟩, Fr.refl _ _⟩
  split
  · split
    · exact retting rfl (.inl rfl)
    · exact retting rfl (.inr rfl)
    · trivial
  · rename_i l
    split
    · trivial
    · split
      · rename_i st pe fn' nt' tm ps as bd d hl
        obtain ⟨cs1, e1, e2⟩ := h.cs
        have hro := h.ro
        generalize hbr : b.roundOf = br at hro
        cases hro with
        | @some _ lb ln hlb =>
        obtain ⟨tmps, Dd, m, q1, q2, q3⟩ := h.H.loopAt hl hlb
        have hend := run_endRound (P := P) jump q3
        split
        · obtain ⟨g1, g2⟩ := put_grown h.H hl hlb (o := .loop .ready none fn' nt' tm ps as bd d) ⟨tmps, Dd, m, q1, q2, rfl⟩
          split
          · cases e2
            have hcs : cs = cs0 := by simpa using e1
            exact ⟨_, _, .bool, g1, g2, hcs, fun c cs' hc => hsome lb _ _ c cs' hbr h.kind (hcs.trans hc) hend⟩
          · rename_i c csA'
            cases e2 with
            | @cons _ c' _ cs2 hc hcs =>
            have hstep := hsome lb _ _ c' (cs2 ++ cs0) hbr h.kind (by rw [e1]; rfl) hend
            split
            · rename_i cA hf
              have hfin := finish_ok hf hc (.bool (μ := μ) (ρ := ρ))
              exact ⟨_, _, _, μ, .one hstep, Mu.le_refl _, ⟨hfin, ⟨cs2, rfl, hcs⟩, g1⟩, g2⟩
            · trivial
        · rename_i j
          obtain ⟨g1, g2⟩ := put_grown h.H hl hlb (o := .loop .done (some j) fn' nt' tm ps as bd d) ⟨tmps, Dd, m, q1, q2, rfl⟩
          split
          · cases e2
            have hcs : cs = cs0 := by simpa using e1
            exact ⟨_, _, .bool, g1, g2, hcs, fun c cs' hc => hsome lb _ _ c cs' hbr h.kind (hcs.trans hc) hend⟩
          · rename_i c csA'
            cases e2 with
            | @cons _ c' _ cs2 hc hcs =>
            have hstep := hsome lb _ _ c' (cs2 ++ cs0) hbr h.kind (by rw [e1]; rfl) hend
            split
            · rename_i cA hf
              have hfin := finish_ok hf hc (.bool (μ := μ) (ρ := ρ))
              exact ⟨_, _, _, μ, .one hstep, Mu.le_refl _, ⟨hfin, ⟨cs2, rfl, hcs⟩, g1⟩, g2⟩
            · trivial
      · trivial

theorem opStep_ok {D : Dec} (hD : D.OK P ρ) (hN : NoNG P) (h : At G μ ρ fn df ro nt E dfs csA H cs0 b a cs w) {all : Array Oper} {o : Oper} {rest : List Oper} {k : List AItem} {k' : List Item} (hk : L2 (IR μ) k k') {i : Nat}
    (hd : all.toList.drop i = o :: rest) (hi : i ≤ all.size) : SROK P G μ ρ cs0 (b.atR a (.inRegion all (List.range' i (all.size - i)) :: k')) cs w (opStep P D fn df ro nt E all o rest k dfs csA H) := by
  obtain ⟨e1, e2, e3, e4⟩ := ops_next hd hi
  have hIR : IR μ (.inOps all (o :: rest)) (.inRegion all (List.range' i (all.size - i))) := .inOps hd hi
  have hIR' : IR μ (.inOps all rest) (.inRegion all (List.range' (i + 1) (all.size - (i + 1)))) := .inOps e4 e2
  rw [e3]
  rw [e3] at hIR
  unfold opStep
  split
  · trivial
  · rename_i hw
    have hw := wanted_ok h.E hw
    split
    · rename_i E' hp
      obtain ⟨p1, p2⟩ := put_ok (a := a) hp h.E (.tup (l' := []) .nil)
      have hs := stepR_op_skip (P := P) (b := b) (a := a) (k := k') (cs := cs) (w := w) (ops := all) (i := i) (rest := List.range' (i + 1) (all.size - (i + 1))) (by simp [e1]; simpa using hw)
      rw [e1] at hs
      exact h.go (.cons hIR' hk) (.one hs) (Mu.le_refl _) p1 p2 h.H (Fr.refl _ _)
    · trivial
  · rename_i hw
    have hw := wanted_ok h.E hw
    have hok := op_ok (P := P) h.H h.E hD hN o
    have hsem : ∀ (hb : opA P D E H o.op ≠ .bad) (hd : ∀ d, opA P D E H o.op ≠ .dfr d), o.semAt b.roundOf a.eval = execOp a.eval o := fun hb hd => Oper.semAt_eq _ _ _ (opA_not_defer rfl hb hd)
    split
    · rename_i v H' ho
      rw [ho] at hok hsem
      have hsem := hsem (by simp) (by simp)
      obtain ⟨nx, v', w', μ', q1, q2, q3, q4, q5, q6⟩ := hok
      split
      · rename_i E' hp
        obtain ⟨p1, p2⟩ := put_ok (a := a) hp (h.E.mono q3) q4
        exact h.go (.cons hIR' hk) (.one (st_val e1 hw (by rw [hsem]; exact q1) q2)) q3 p1 p2 q5 q6
      · trivial
    · rename_i f args ho
      rw [ho] at hok hsem
      have hsem := hsem (by simp) (by simp)
      obtain ⟨args', q1, q2⟩ := hok
      have hst := st_enter (P := P) (b := b) (a := a) (k := k') (cs := cs) (rest := List.range' (i + 1) (all.size - (i + 1))) e1 hw (by rw [hsem]; exact q1)
      split
      · rename_i v hv
        obtain ⟨v', w', r1, r2, r3⟩ := plug_ok hD hv q2 w (b.atR a (.inRegion all (i :: List.range' (i + 1) (all.size - (i + 1))) :: k')) cs
        rw [fin_atR e1] at r3
        obtain ⟨s1, s2⟩ := h.H.all r2
        split
        · rename_i E' hp
          obtain ⟨p1, p2⟩ := put_ok (a := a) hp h.E r1
          exact h.go (.cons hIR' hk) ((Steps.one hst).trans r3) (Mu.le_refl _) p1 p2 s1 s2
        · trivial
      · split
        · rename_i v H1 hv
          obtain ⟨v', w', μ', r0, r1, r2, r3, r4⟩ := hD.hp _ _ _ _ _ hv _ _ w _ h.H q2 (b.atR a (.inRegion all (i :: List.range' (i + 1) (all.size - (i + 1))) :: k')) cs
          rw [fin_atR e1] at r4
          split
          · rename_i E' hp
            obtain ⟨p1, p2⟩ := put_ok (a := a) hp (h.E.mono r0) r1
            exact h.go (.cons hIR' hk) ((Steps.one hst).trans r4) r0 p1 p2 r2 r3
          · trivial
        · split
          · rename_i g hg
            obtain ⟨g1, g2, g3, g4, g5⟩ := enter_ok hg q2
            obtain ⟨cs1, c1, c2⟩ := h.cs
            exact ⟨_, _, _, μ, .one hst, Mu.le_refl _, ⟨g1, ⟨_ :: cs1, by rw [c1]; rfl, .cons (h.asCaller (.cons hIR hk)) c2⟩, h.H⟩, Fr.refl _ _⟩
          · trivial
    · rename_i kk args ho
      rw [ho] at hok hsem
      have hsem := hsem (by simp) (by simp)
      obtain ⟨lb, ln, args', q0, q1, q2⟩ := hok
      split
      · rename_i st pe fn' nt' tm ps as bd d hl
        split
        · rename_i E' hb
          obtain ⟨tmps, Dd, m, r1, r2, r3⟩ := h.H.loopAt hl q0
          obtain ⟨b1, b2⟩ := bind_ok _ _ _ _ _ _ _ r2 q2 hb
          have hy := run_yield (P := P) (args := args'.toArray) r3 (by simp [← b1])
          rw [← q1, ← hsem] at hy
          have hst := st_round (P := P) (b := b) (k := k') (cs := cs) (rest := List.range' (i + 1) (all.size - (i + 1))) e1 hw hy
          obtain ⟨cs1, c1, c2⟩ := h.cs
          refine ⟨_, _, _, μ, .one hst, Mu.le_refl _, ⟨⟨rfl, rfl, .some q0, ?_, fun _ => .cons .code (.cons .beginRound (.cons .code .nil)), .nil, .run⟩, ⟨_ :: cs1, by rw [c1]; rfl, .cons (h.asCaller (.cons hIR hk)) c2⟩, h.H⟩, Fr.refl _ _⟩
          have e : ((ps.zip args'.toArray).foldl (fun tmps (t, a) => tmps.setIfInBounds t a) tmps) = ((ps.toList.zip args').foldl (fun tmps (t, a) => tmps.setIfInBounds t a) tmps) := by
            rw [← Array.foldl_toList, Array.toList_zip]
          show ER μ ρ nt' E' ((ps.zip args'.toArray).foldl (fun tmps (t, a) => tmps.setIfInBounds t a) tmps)
          rw [e]; exact b2
        · trivial
      · trivial
    · rename_i d ho
      rw [ho] at hok
      obtain ⟨d', q1, q2⟩ := hok
      have hro := h.ro
      split
      · trivial
      · split
        · rename_i E' hp
          generalize hbr : b.roundOf = br at hro
          cases hro
          obtain ⟨p1, p2⟩ := put_ok (a := { a with defers := d' :: a.defers }) (v' := undef) hp h.E (.tup (l' := []) .nil)
          have hst := st_defer (P := P) (b := b) (a := a) (k := k') (cs := cs) (rest := List.range' (i + 1) (all.size - (i + 1))) e1 hw (by rw [hbr, Oper.semAt_none]; exact q1)
          obtain ⟨cs1, c1, c2⟩ := h.cs
          exact ⟨_, _, _, μ, .one hst, Mu.le_refl _, ⟨⟨h.fn, h.kind, by show RoR μ none b.roundOf; rw [hbr]; exact .none, p1, fun _ => .cons hIR' hk, by show L2 _ _ (Act.put _ _ _).defers; rw [p2]; exact .cons q2 h.defers, .run⟩, ⟨cs1, c1, c2⟩, h.H⟩, Fr.refl _ _⟩
        · trivial
    · rename_i ho
      rw [ho] at hok
      have hro := h.ro
      split
      · trivial
      · generalize hbr : b.roundOf = br at hro
        cases hro
        split
        · split
          · rename_i E' hp
            obtain ⟨p1, p2⟩ := put_ok (a := a) hp h.E (v' := .nilIface) .nili
            have htr : tryRecover (b.atR a (.inRegion all (i :: List.range' (i + 1) (all.size - (i + 1))) :: k')) cs = none := by
              have hk2 : (b.atR a (.inRegion all (i :: List.range' (i + 1) (all.size - (i + 1))) :: k')).kind = .normal := h.kind
              unfold tryRecover; rw [hk2]
            exact h.go (.cons hIR' hk) (.one (st_recov e1 hw hbr hok (.inr ⟨htr, rfl, rfl⟩))) (Mu.le_refl _) p1 p2 h.H (Fr.refl _ _)
          · trivial
        · have hk2 : (b.atR a (.inRegion all (i :: List.range' (i + 1) (all.size - (i + 1))) :: k')).kind = .deferred := h.kind
          obtain ⟨cs1, c1, c2⟩ := h.cs
          split
          · trivial
          · rename_i cfn cdf cro cnt cE ctodo cdfs cmode cs'
            cases c2 with
            | @cons _ c' _ cs2 hc hcs =>
            have hcm := hc.mode
            split
            · trivial
            · dsimp only at hcm
              split
              · rename_i E' hp
                obtain ⟨p1, p2⟩ := put_ok (a := a) hp h.E (v' := .nilIface) .nili
                have htr : tryRecover (b.atR a (.inRegion all (i :: List.range' (i + 1) (all.size - (i + 1))) :: k')) cs = none := by
                  rw [tryRecover_deferred hk2, c1]
                  have hm' : c'.mode = .returning := by generalize c'.mode = m at hcm; cases hcm; rfl
                  simp [recoverD, hm']
                exact h.go (.cons hIR' hk) (.one (st_recov e1 hw hbr hok (.inr ⟨htr, rfl, rfl⟩))) (Mu.le_refl _) p1 p2 h.H (Fr.refl _ _)
              · trivial
            · dsimp only at hcm
              split
              · rename_i v older
                split
                · rename_i E' hp
                  obtain ⟨v', older', hm', hv', hol⟩ : ∃ v' older', c'.mode = .panicking ({ v := v', recovered := false } :: older') ∧ VR μ ρ v v' ∧ L2 (EntR μ ρ) older older' := by
                    generalize c'.mode = m at hcm
                    cases hcm with
                    | pan hl =>
                    cases hl with
                    | cons he hol =>
                    cases he with
                    | mk hv => exact ⟨_, _, rfl, hv, hol⟩
                  obtain ⟨p1, p2⟩ := put_ok (a := a) hp h.E hv'
                  have htr : tryRecover (b.atR a (.inRegion all (i :: List.range' (i + 1) (all.size - (i + 1))) :: k')) cs = some (v', { c' with mode := .panicking ({ v := v', recovered := true } :: older') } :: (cs2 ++ cs0)) := by
                    rw [tryRecover_deferred hk2, c1]
                    simp [recoverD, hm']
                  have hst := st_recov (P := P) (b := b) (a := a) (k := k') e1 hw hbr hok (.inl htr)
                  refine ⟨_, _, _, μ, .one hst, Mu.le_refl _, ⟨⟨h.fn, h.kind, by show RoR μ none b.roundOf; rw [hbr]; exact .none, p1, fun _ => .cons hIR' hk, by show L2 _ _ (Act.put _ _ _).defers; rw [p2]; exact h.defers, .run⟩, ⟨_ :: cs2, rfl, .cons ?_ hcs⟩, h.H⟩, Fr.refl _ _⟩
                  exact ⟨hc.fn, hc.kind, hc.ro, hc.E, fun hcc => (by cases hcc), hc.defers, .pan (.cons (.mk hv') hol)⟩
                · trivial
              · trivial
    · rename_i v ho
      rw [ho] at hok hsem
      have hsem := hsem (by simp) (by simp)
      obtain ⟨v', q1, q2⟩ := hok
      have hst := st_pan (P := P) (b := b) (a := a) (k := k') (cs := cs) (rest := List.range' (i + 1) (all.size - (i + 1))) e1 hw (by rw [hsem]; exact q1)
      obtain ⟨cs1, c1, c2⟩ := h.cs
      exact ⟨_, _, _, μ, .one hst, Mu.le_refl _, ⟨⟨h.fn, h.kind, h.ro, h.E, fun hcc => (by cases hcc), h.defers, .pan (.cons (.mk q2) .nil)⟩, ⟨cs1, c1, c2⟩, h.H⟩, Fr.refl _ _⟩
    · trivial
end
end Vx

/-! A step of the abstract machine is so many steps of the model's: the rest; runs; what a run that ends says of a call. -/
namespace Vx
open Go
section
variable {P : Program} {G : Gd} {μ : Mu} {ρ : Env} {H : Heap} {w : World} {fn : FuncId} {df : Bool} {ro : Option Nat} {nt : Nat} {E : Tr AV} {dfs : List ADef} {csA : List AF} {cs0 cs : List Frame} {b : Frame} {a : Act}

theorem stepR_scopeX {x : Code} {k : List Item} :
    step P (lone (b.atR a (.code (.scope x) :: k)) cs w) = .next (lone (b.atR a (.code x :: .inScope x :: k)) cs w) :=
  step_lone_go (by simp [stepG, stepG.exec, Frame.atR])
theorem stepR_inScopeX {x : Code} {k : List Item} :
    step P (lone (b.atR a (.inScope x :: k)) cs w) = .next (lone (b.atR a k) cs w) :=
  step_lone_go (by simp [stepG, stepG.exec, Frame.atR])
theorem codeStep_ok {rg : Rg} (hrg : RgOK P ρ rg) (hN : NoNG P) (h : At G μ ρ fn df ro nt E dfs csA H cs0 b a cs w) {c : Code} {k : List AItem} {k' : List Item} (hk : L2 (IR μ) k k') :
    SROK P G μ ρ cs0 (b.atR a (.code c :: k')) cs w (codeStep P rg fn df ro nt E c k dfs csA H) := by
  unfold codeStep
  split
  · exact h.turn hk stepR_skip
  · rename_i id ops draw
    split
    · refine h.turn (k' := .inRegion ops (List.range' 0 (ops.size - 0)) :: k') (.cons (.inOps rfl (Nat.zero_le _)) hk) ?_
      rw [stepR_region, List.range_eq_range']; simp
    · have hr := hrg G μ H w nt E b a k' cs id ops h.E h.H
      split
      · rename_i E' H' he
        rw [he] at hr
        obtain ⟨a', w', μ', q1, q2, q3, q4, q5, q6⟩ := hr
        exact h.go hk q1 q3 q4 q2 q5 q6
      · rename_i E' ch H' he
        rw [he] at hr
        obtain ⟨a', w', μ', todo', ch', q1, q2, q3, q4, q5, q6, q7⟩ := hr
        obtain ⟨cs1, c1, c2⟩ := h.cs
        exact ⟨_, _, _, μ', q1, q3, ⟨⟨h.fn, h.kind, h.ro.mono q3, q4, fun hcc => (by cases hcc), by show L2 _ _ a'.defers; rw [q2]; exact h.defers.mono fun _ _ => DR.mono q3, .pan q5⟩, ⟨cs1, c1, c2.mono fun _ _ => FR.mono q3⟩, q6⟩, q7⟩
      · trivial
  · exact h.turn (.cons .code (.cons .code hk)) stepR_seq
  · rename_i x y z
    split
    · rename_i t ht
      have hv := ev_ok h.E ht
      generalize hx : a.eval x = xv at hv
      cases hv
      split
      · exact h.turn (.cons .code hk) (stepR_cond hx)
      · exact h.turn (.cons .code hk) (stepR_cond hx)
    · trivial
  · exact h.turn (.cons .code (.cons .inBlock hk)) stepR_block
  · exact h.turn (.cons .code (.cons .inLoop hk)) stepR_loop
  · rename_i x ps as bd
    have hro := h.ro
    split
    · trivial
    · generalize hbr : b.roundOf = br at hro
      cases hro
      split
      · rename_i g first cap hx
        have hv := ev_ok h.E hx
        generalize hxv : a.eval x = xv at hv
        cases hv with
        | @fn _ _ _ first' cap' v1 v2 =>
        split
        · rename_i hbod
          split
          · rename_i nf hnf
            -- the two new blocks
            obtain ⟨g1, g2, g3⟩ := h.H.alloc (o := .dfr) (x := .deferred (some [])) (n := 0) rfl
            obtain ⟨w1, hw1⟩ : ∃ w1, w1 = w.alloc (.deferred (some [])) := ⟨_, rfl⟩
            obtain ⟨μ1, hμ1⟩ : ∃ μ1, μ1 = μ.upd H.next (w.heap.size, 0) := ⟨_, rfl⟩
            rw [← hw1, ← hμ1] at g1
            rw [← hμ1] at g2
            rw [← hw1] at g3
            have hμd : μ1 H.next = some (w.heap.size, 0) := by rw [hμ1]; exact Mu.upd_self _ _ _
            have hsz1 : w1.heap.size = w.heap.size + 1 := by rw [hw1]; simp
            obtain ⟨k1, k2, k3⟩ := g1.alloc (o := .loop .ready none fn nt E ps as bd H.next) (x := .loop { state := .ready, pending := none, fn := fn, tmps := a.tmps, params := ps, assign := as, body := bd, defers := w.heap.size }) (n := 0)
              ⟨a.tmps, w.heap.size, 0, hμd, h.E.mono g2, rfl⟩
            obtain ⟨w2, hw2⟩ : ∃ w2, w2 = w1.alloc (.loop { state := .ready, pending := none, fn := fn, tmps := a.tmps, params := ps, assign := as, body := bd, defers := w.heap.size }) := ⟨_, rfl⟩
            obtain ⟨μ2, hμ2⟩ : ∃ μ2, μ2 = μ1.upd (H.add .dfr).next (w1.heap.size, 0) := ⟨_, rfl⟩
            rw [← hw2, ← hμ2] at k1
            rw [← hμ2] at k2
            rw [← hw2] at k3
            have hle := Mu.le_trans g2 k2
            have hnext : (H.add .dfr).next = Nat.succ H.next := rfl
            have hμl : μ2 (Nat.succ H.next) = some (w.heap.size + 1, 0) := by rw [hμ2, ← hnext, ← hsz1]; exact Mu.upd_self _ _ _
            have he : (Instr.enterLoop b.fn a.tmps ps as bd b.roundOf).run P w = .ok (w.heap.size + 1, [{ target := .collected w.heap.size, args := #[] }]) w2 := by
              rw [hbr, h.fn, run_enterLoop_outer, hw2, hw1]
            have hargs : VRs μ2 ρ (first ++ [.yld (Nat.succ H.next)] ++ cap) (first' ++ [Value.func (.yield (w.heap.size + 1)) #[] #[]] ++ cap') := ((v1.mono hle).append (.cons (.yld hμl) .nil)).append (v2.mono hle)
            have hres : (resolve a.eval (rangeCall x (w.heap.size + 1)) 0).run P w2 = Result.ok { target := .fn (.func g) cap'.toArray, args := first'.toArray ++ #[Value.func (.yield (w.heap.size + 1)) #[] #[]] } w2 := by
              simp only [resolve, hxv]
              simp [Deferred.ofValue, Act.eval]
            have hinv : (invoke (.fn (.func g) cap'.toArray) (first'.toArray ++ #[Value.func (.yield (w.heap.size + 1)) #[] #[]])).run P w2 = .ok (.enter g (first' ++ [Value.func (.yield (w.heap.size + 1)) #[] #[]] ++ cap').toArray) w2 := by
              simp only [invoke]
              rw [callFunc_ok hN hbod]
              simp
            have hst := stepR_rangeFunc (P := P) (b := b) (a := a) (k := k') (cs := cs) (w := w) he hres hinv
            obtain ⟨e1, e2, e3, e4, e5⟩ := enter_ok hnf hargs
            obtain ⟨cs1, c1, c2⟩ := h.cs
            refine ⟨_, _, _, μ2, .one hst, hle, ⟨e1, ⟨_ :: cs1, by rw [c1]; rfl, .cons ?_ (c2.mono fun _ _ => FR.mono hle)⟩, k1⟩, g3.trans k3⟩
            exact ⟨h.fn, h.kind, by show RoR μ2 none b.roundOf; rw [hbr]; exact .none, h.E.mono hle, fun _ => .cons (.inRF hμl) (hk.mono fun _ _ => IR.mono hle), .cons (.coll (k2 _ _ hμd)) (h.defers.mono fun _ _ => DR.mono hle), .run⟩
          · trivial
        · trivial
      · trivial
  · rename_i id
    split
    · rename_i k2 hx
      obtain ⟨k2', q1, q2⟩ := exitTo_ok hk hx
      exact h.turn q2 (stepR_exit q1)
    · rename_i hx
      have hxn := exitTo_none hk hx
      split
      · exact endRound_ok h (fun _ => .inr trivial) _ (fun hro => by cases hro) (fun l v w' c cs' hb hkd hcs hr => by rw [hcs]; exact stepR_round_exit hb hkd hxn hr)
      · trivial
  · exact h.turn hk stepR_label
  · exact h.turn (.cons .code (.cons .inScope hk)) stepR_scopeX
  · split
    · rename_i k2 hx
      obtain ⟨k2', q1, q2⟩ := gotoA_ok hk hx
      exact h.turn q2 (stepR_goto q1)
    · trivial
  · refine endRound_ok h (fun _ => .inr trivial) _ (fun hro _ => ?_) (fun l v w' c cs' hb hkd hcs hr => by rw [hcs]; exact stepR_round_ret hb hkd hr)
    have hr := h.ro
    rw [hro] at hr
    generalize hbr : b.roundOf = br at hr
    cases hr
    exact stepR_ret hbr
  · trivial

/-- What a result variable holds. -/
def resOf (tmps : Array Value) (r : ResultVar) : Sem Value :=
  match r with
  | .tmp t => pure (tmps.getD t undef)
  | .cell a t => do loadVar t (← asAddr (tmps.getD a undef))
theorem resA_ok (hG : GR G μ ρ H w) {tmps : Array Value} (hE : ER μ ρ nt E tmps) : ∀ (rs : List ResultVar) (l : List AV), resA P E H rs = some l →
    ∃ l' : List Value, VRs μ ρ l l' ∧ (rs.mapM (resOf tmps)).run P w = .ok l' w
  | [], l, h => by simp only [resA, Option.some.injEq] at h; subst h; exact ⟨[], .nil, by simp⟩
  | r :: rs, l, h => by
    simp only [resA] at h
    split at h
    · rename_i t
      split at h
      · rename_i v hv
        split at h
        · rename_i l2 hl2
          cases h
          obtain ⟨l', q1, q2⟩ := resA_ok hG hE rs l2 hl2
          exact ⟨_ :: l', .cons (hE.2 t v hv) q1, by simp only [List.mapM_cons, resOf, Sem.run_bind, Sem.run_pure, Result.andThen_ok, q2]⟩
        · cases h
      · cases h
    · rename_i t ty
      split at h
      · rename_i x hx
        split at h
        · rename_i v hv
          split at h
          · rename_i l2 hl2
            cases h
            obtain ⟨l', q1, q2⟩ := resA_ok hG hE rs l2 hl2
            have hxv := hE.2 t x hx
            obtain ⟨v', r1, r2⟩ := loadA_run (P := P) hG hxv hv
            obtain ⟨ad, had⟩ := loadA_ptr hxv hv
            have hrun : (resOf tmps (.cell t ty)).run P w = .ok v' w := by
              rw [had] at r1
              simp only [resOf, had, asAddr, Sem.run_bind, Sem.run_pure, Result.andThen_ok]
              simpa [Instr.loadAt, Instr.sureAddr] using r1
            exact ⟨v' :: l', .cons r2 q1, by simp only [List.mapM_cons, Sem.run_bind, Sem.run_pure, Result.andThen_ok, hrun, q2]⟩
          · cases h
        · cases h
      · cases h
theorem result_ok (hG : GR G μ ρ H w) {tmps : Array Value} (hE : ER μ ρ nt E tmps) {v : AV} (h : resultA P fn E H = some v) : ∃ F v', P.funcs[fn]? = some F ∧ (results F tmps).run P w = .ok v' w ∧ VR μ ρ v v' := by
  unfold resultA at h
  rw [fnT_eq] at h
  split at h
  · rename_i F hF
    split at h
    · rename_i l hl
      obtain ⟨l', q1, q2⟩ := resA_ok hG hE _ _ hl
      have hm : (F.results.mapM (resOf tmps)).run P w = .ok l'.toArray w := by
        rw [Array.mapM_eq_mapM_toList]
        simp [q2]
      have hres : ∀ v', (if h : l'.toArray.size = 1 then l'.toArray[0] else .tuple l'.toArray) = v' → (results F tmps).run P w = .ok v' w := fun v' hv' => by
        have e : results F tmps = (do let vs ← F.results.mapM (resOf tmps); pure (if h : vs.size = 1 then vs[0] else .tuple vs)) := rfl
        rw [e, Sem.run_bind, hm]
        simp only [Result.andThen_ok, Sem.run_pure, hv']
      split at h
      · rename_i v0
        cases h
        cases q1 with
        | cons h1 h2 =>
        cases h2
        exact ⟨F, _, hF, hres _ (by simp), h1⟩
      · rename_i l0 hne
        cases h
        refine ⟨F, _, hF, hres (.tuple l'.toArray) ?_, .tup q1⟩
        rw [dif_neg]
        intro hs
        have hlen := q1.length
        simp only [List.size_toArray] at hs
        match l, l', hlen, hs, hne with
        | [x], _, _, _, hne => exact hne x rfl
        | [], [], _, hs, _ => simp at hs
        | _ :: _ :: _, _, hlen, hs, _ => simp at hlen; omega
    · cases h
  · cases h

theorem settle_ok {m : AMode} {m' : FrameMode} (h : MoR μ ρ m m') (hr : m ≠ .run) : MoR μ ρ (settleA m) (settle m') ∧ settleA m ≠ .run := by
  cases h with
  | run => exact absurd rfl hr
  | ret => exact ⟨.ret, by simp [settleA]⟩
  | pan hl =>
    cases hl with
    | nil => exact ⟨.pan .nil, by simp [settleA]⟩
    | cons he hs =>
      cases he with
      | @mk v v' r hv =>
      cases r with
      | false => exact ⟨.pan (.cons (.mk hv) hs), by simp [settleA]⟩
      | true =>
        rename_i l1 l2
        have hd : ∀ (l : List AEnt) (r : List PanicEntry), L2 (EntR μ ρ) l r → r.dropWhile (!·.goexit) = [] := by
          intro l r h
          induction h with
          | nil => rfl
          | cons he _ ih => cases he; simp [List.dropWhile, ih]
        refine ⟨?_, by simp [settleA]⟩
        simp only [settleA, settle, hd _ _ hs]
        exact .ret
theorem raised_ok {m : AMode} {m' : FrameMode} (h : MoR μ ρ m m') {c : List AEnt} {c' : List PanicEntry} (hc : L2 (EntR μ ρ) c c') : MoR μ ρ (raisedA m c) (raised m' c') ∧ raisedA m c ≠ .run := by
  have app : ∀ {l : List AEnt} {r : List PanicEntry} {l2 : List AEnt} {r2 : List PanicEntry}, L2 (EntR μ ρ) l r → L2 (EntR μ ρ) l2 r2 → L2 (EntR μ ρ) (l ++ l2) (r ++ r2) := by
    intro l r l2 r2 h1 h2
    induction h1 with
    | nil => exact h2
    | cons he _ ih => exact .cons he ih
  cases h with
  | run => exact ⟨.pan hc, by simp [raisedA]⟩
  | ret => exact ⟨.pan hc, by simp [raisedA]⟩
  | pan hl => exact ⟨.pan (app hc hl), by simp [raisedA]⟩

theorem outStep_ok (hN : NoNG P) {todo : List AItem} {mode : AMode} (hmr : mode ≠ .run) {fr : Frame} (hfr : FR μ ρ ⟨fn, df, ro, nt, E, todo, dfs, mode⟩ fr) (hcs : ∃ cs1, cs = cs1 ++ cs0 ∧ L2 (FR μ ρ) csA cs1) (hG : GR G μ ρ H w) :
    SROK P G μ ρ cs0 fr cs w (outStep P fn df ro nt E todo dfs mode csA H) := by
  obtain ⟨cs1, c1, c2⟩ := hcs
  have hmode : fr.mode ≠ .run := by
    have := hfr.mode
    dsimp only at this
    generalize fr.mode = m at this
    cases this with
    | run => exact absurd rfl hmr
    | ret => simp
    | pan _ => simp
  have hdef := hfr.defers
  dsimp only at hdef
  unfold outStep
  split
  · rename_i d ds
    cases hfd : fr.defers with
    | nil => rw [hfd] at hdef; cases hdef
    | cons d' ds' =>
    rw [hfd] at hdef
    cases hdef with
    | cons hd hds =>
    split
    · rename_i k
      cases hd with
      | @coll _ bk n hk =>
      split
      · rename_i hdfr
        obtain ⟨b1, n1, x, e1, _, e3, e4⟩ := hG.obj _ _ hdfr
        rw [hk] at e1; cases e1
        have e4 : x = .deferred (some []) := e4
        subst e4
        have htk := run_takeDeferred (P := P) e3
        have hst := step_collected (cs := cs) hmode hfd rfl htk
        obtain ⟨g1, g2⟩ := hG.drop (w' := w.putObj bk (.deferred none)) hdfr hk (fun b' hne => World.putObj_heap_other hne) (by simp) rfl rfl rfl
        exact ⟨_, _, _, μ, .one hst, Mu.le_refl _, ⟨⟨hfr.fn, hfr.kind, hfr.ro, hfr.E, hfr.todo, hds, hfr.mode⟩, ⟨cs1, c1, c2⟩, g1⟩, g2⟩
      · trivial
    · rename_i f args cap
      cases hd with
      | @fn _ _ _ args' cap' v1 v2 =>
      split
      · rename_i hbod
        split
        · rename_i g hg
          obtain ⟨e1, e2, e3, e4, e5⟩ := enter_ok hg (v1.append v2)
          have hinv : (invoke (.fn (.func f) cap'.toArray) args'.toArray).run P w = .ok (.enter f (args' ++ cap').toArray) w := by
            simp only [invoke]
            rw [callFunc_ok hN hbod]
            simp
          have hst := step_defer (cs := cs) hmode hfd rfl hinv
          exact ⟨_, _, _, μ, .one hst, Mu.le_refl _, ⟨e1, ⟨{ fr with defers := ds' } :: cs1, by rw [c1]; rfl, .cons ⟨hfr.fn, hfr.kind, hfr.ro, hfr.E, hfr.todo, hds, hfr.mode⟩ c2⟩, hG⟩, Fr.refl _ _⟩
        · trivial
      · trivial
  · have hfd : fr.defers = [] := by generalize fr.defers = l at hdef; cases hdef; rfl
    have hfn := hfr.fn
    have hkd := hfr.kind
    dsimp only at hfn hkd
    split
    · trivial
    · have hm : fr.mode = .returning := by have := hfr.mode; dsimp only at this; generalize fr.mode = m at this; cases this; rfl
      split
      · trivial
      · rename_i v hv
        obtain ⟨F, v', r1, r2, r3⟩ := result_ok (P := P) hG hfr.E hv
        rw [← hfn] at r1
        split
        · cases c2
          split
          · exact ⟨v', hfn, ⟨hm, hfd, hkd, F, r1, r2⟩, r3, hG, by simpa using c1⟩
          · trivial
        · rename_i c csA'
          cases c2 with
          | @cons _ c' _ cs2 hc hcs =>
          split
          · split
            · rename_i cA hf
              have hfin := finish_ok hf hc r3
              have hst := step_leave_returned (c := c') (cs := cs2 ++ cs0) (fr := fr) (w := w) (P := P) (v := v') ⟨hm, hfd, hkd, F, r1, r2⟩
              exact ⟨_, _, _, μ, .one (by rw [c1]; exact hst), Mu.le_refl _, ⟨hfin, ⟨cs2, rfl, hcs⟩, hG⟩, Fr.refl _ _⟩
            · trivial
          · obtain ⟨cfn, cdf, cro, cnt, cE, ctodo, cdfs, cmode⟩ := c
            dsimp only
            have hcm := hc.mode
            dsimp only at hcm
            split
            · trivial
            · rename_i hne
              have hst := step_going_returned (c := c') (cs := cs2 ++ cs0) (fr := fr) (w := w) (P := P) (v := v') hkd ⟨hm, hfd, F, r1, r2⟩
              obtain ⟨s1, s2⟩ := settle_ok hcm (fun e => hne e)
              exact ⟨{ c' with mode := settle c'.mode }, _, _, μ, .one (by rw [c1]; exact hst), Mu.le_refl _, ⟨⟨hc.fn, hc.kind, hc.ro, hc.E, fun e => absurd e s2, hc.defers, s1⟩, ⟨cs2, rfl, hcs⟩, hG⟩, Fr.refl _ _⟩
    · rename_i ch
      obtain ⟨ch', hm, hch⟩ : ∃ ch', fr.mode = .panicking ch' ∧ L2 (EntR μ ρ) ch ch' := by
        have := hfr.mode; dsimp only at this; generalize fr.mode = m at this
        cases this with
        | pan h => exact ⟨_, rfl, h⟩
      split
      · trivial
      · rename_i F hF
        rw [← hfn, fnT_eq] at hF
        split
        · cases c2
          exact ⟨ch', hfn, ⟨hm, hfd, F, hF⟩, hch, hG, by simpa using c1⟩
        · rename_i cfn cdf cro cnt cE ctodo cdfs cmode csA'
          cases c2 with
          | @cons _ c' _ cs2 hc hcs =>
          have hcm := hc.mode
          dsimp only at hcm
          have hst := step_leave_panicked (c := c') (cs := cs2 ++ cs0) (fr := fr) (w := w) (P := P) (chain := ch') ⟨hm, hfd, F, hF⟩
          rw [Frame.raise_mode] at hst
          obtain ⟨s1, s2⟩ := raised_ok hcm hch
          exact ⟨{ c' with mode := raised c'.mode ch' }, _, _, μ, .one (by rw [c1]; exact hst), Mu.le_refl _, ⟨⟨hc.fn, hc.kind, hc.ro, hc.E, fun e => absurd e s2, hc.defers, s1⟩, ⟨cs2, rfl, hcs⟩, hG⟩, Fr.refl _ _⟩

theorem astep_ok {D : Dec} (hD : D.OK P ρ) {rg : Rg} (hrg : RgOK P ρ rg) (hN : NoNG P) {m : AM} {fr : Frame} (hm : MR G μ ρ m cs0 fr cs w) : SROK P G μ ρ cs0 fr cs w (astep P D rg m) := by
  obtain ⟨⟨fn, df, ro, nt, E, todo, dfs, mode⟩, csA, H⟩ := m
  obtain ⟨hfr, hcs, hG⟩ := hm
  dsimp only at hfr hcs hG
  unfold astep
  dsimp only
  split
  · have hmode : fr.mode = .run := by have := hfr.mode; dsimp only at this; generalize fr.mode = m at this; cases this; rfl
    have htodo := hfr.todo rfl
    dsimp only at htodo
    have hat : At G μ ρ fn df ro nt E dfs csA H cs0 fr ⟨fr.tmps, fr.defers⟩ cs w := ⟨hfr.fn, hfr.kind, hfr.ro, hfr.E, hfr.defers, hcs, hG⟩
    have hfe := frame_atR fr hmode
    generalize hft : fr.todo = ft at htodo hfe
    rw [hfe]
    split
    · cases htodo
      refine endRound_ok hat (fun _ => .inr trivial) _ (fun hro _ => ?_) (fun l v w' c cs' hb hkd hcs hr => by rw [hcs]; exact stepR_round_end hb hkd hr)
      have hr := hfr.ro
      dsimp only at hr
      rw [hro] at hr
      generalize hbr : fr.roundOf = br at hr
      cases hr
      exact stepR_end hbr
    · rename_i it k
      cases htodo with
      | @cons _ it' _ k' hit hk =>
      split
      · cases hit
        exact codeStep_ok hrg hN hat hk
      · cases hit
        exact hat.turn hk stepR_inBlock
      · cases hit
        exact hat.turn hk stepR_inScopeX
      · cases hit
        exact hat.turn (.cons .code (.cons .inLoop hk)) stepR_inLoop
      · rename_i all rest
        cases hit with
        | @inOps _ _ i hd hi =>
        split
        · refine hat.turn hk ?_
          have : all.size - i = 0 := by
            rw [List.drop_eq_nil_iff] at hd
            simpa using Nat.sub_eq_zero_of_le (by simpa using hd)
          rw [this]
          exact stepR_region_end
        · rename_i o rest'
          exact opStep_ok hD hN hat hk hd hi
      · trivial
      · rename_i l
        cases hit with
        | @endRF _ bl n hl =>
        split
        · rename_i st pe fn' nt' tm ps as bd d hg
          obtain ⟨tmps, Dd, m, q1, q2, q3⟩ := hG.loopAt hg hl
          split
          · trivial
          · rename_i hst
            have hend := run_endLoop (P := P) q3 (by intro e; exact hst e)
            have hs := stepR_endRangeFunc (b := fr) (a := ⟨fr.tmps, fr.defers⟩) (k := k') (cs := cs) hend
            split
            · obtain ⟨g1, g2⟩ := put_grown hG hg hl (o := .loop .exhausted none fn' nt' tm ps as bd d) ⟨tmps, Dd, m, q1, q2, rfl⟩
              exact hat.go hk (.one hs) (Mu.le_refl _) hfr.E rfl g1 g2
            · rename_i j
              obtain ⟨g1, g2⟩ := put_grown hG hg hl (o := .loop .exhausted (some j) fn' nt' tm ps as bd d) ⟨tmps, Dd, m, q1, q2, rfl⟩
              exact hat.go (.cons .code hk) (.one hs) (Mu.le_refl _) hfr.E rfl g1 g2
        · trivial
      · cases hit
        have hro := hfr.ro
        dsimp only at hro
        split
        · trivial
        · rename_i l
          generalize hbr : fr.roundOf = br at hro
          cases hro with
          | @some _ bl n hl =>
          split
          · rename_i st pe fn' nt' tm ps as bd d hg
            obtain ⟨tmps, Dd, m, q1, q2, q3⟩ := hG.loopAt hg hl
            split
            · have hbeg := run_beginRound (P := P) q3 rfl
              have hs := stepR_beginRound (b := fr) (a := ⟨fr.tmps, fr.defers⟩) (k := k') (cs := cs) hbr hbeg
              obtain ⟨g1, g2⟩ := put_grown hG hg hl (o := .loop .busy pe fn' nt' tm ps as bd d) ⟨tmps, Dd, m, q1, q2, rfl⟩
              exact hat.go hk (.one hs) (Mu.le_refl _) hfr.E rfl g1 g2
            · trivial
          · trivial
  · rename_i hne
    exact outStep_ok hN (fun e => hne e) hfr hcs hG
end
end Vx

/-! Regions that draw their order: how they are gone over; runs. -/
namespace Vx
open Go

/-! ### What must come ahead of what -/
noncomputable def bindsA (e : Edge) : Bool :=
  match e.ground with
  | .textOnly _ => false
  | .gcOnly _ => false
  | _ => true
/-- What must come ahead, as bits: by the edges. -/
noncomputable def edgesA (mt : Tr Nat) (i : Nat) : List Edge → Nat → Option Nat
  | [], m => some m
  | e :: r, m => match bindsA e with
    | true => match Nat.ble (Nat.succ e.on) i with
      | true => edgesA mt i r (Nat.lor m (Nat.lor (Nat.pow 2 e.on) (og (mt.get e.on) 0)))
      | false => none
    | false => edgesA mt i r m
noncomputable def masksA : List Oper → Nat → Tr Nat → Option (Tr Nat)
  | [], _, mt => some mt
  | o :: r, i, mt => match edgesA mt i o.after.toList 0 with
    | some m => masksA r (Nat.succ i) (mt.put i (some m))
    | none => none
/-- Who writes a temporary; each is written once. -/
noncomputable def writersA : List Oper → Nat → Tr Nat → Option (Tr Nat)
  | [], _, wt => some wt
  | o :: r, i, wt => match o.dst with
    | none => writersA r (Nat.succ i) wt
    | some d => match wt.get d with
      | some _ => none
      | none => writersA r (Nat.succ i) (wt.put d (some i))
noncomputable def bitA (m i : Nat) : Bool := Nat.beq (Nat.mod (Nat.shiftRight m i) 2) 1
/-- A temporary that operation i reads: it is written ahead, or behind. -/
noncomputable def readOK (mt wt : Tr Nat) (i t : Nat) : Bool :=
  match wt.get t with
  | none => true
  | some k => match Nat.ble (Nat.succ k) i with
    | true => bitA (og (mt.get i) 0) k
    | false => match Nat.ble (Nat.succ i) k with
      | true => bitA (og (mt.get k) 0) i
      | false => false
noncomputable def readsOK (mt wt : Tr Nat) (i : Nat) : List Operand → Bool
  | [] => true
  | x :: r => match x with
    | .tmp t => match readOK mt wt i t with
      | true => readsOK mt wt i r
      | false => false
    | _ => readsOK mt wt i r
noncomputable def guardOK (mt wt : Tr Nat) (all : List Oper) (i : Nat) (g : Option (Nat × Bool)) : Bool :=
  match g with
  | none => true
  | some (j, _) => match nth all j with
    | some oj => match oj.dst with
      | some d => readOK mt wt i d
      | none => false
    | none => false
noncomputable def allReadsOK (mt wt : Tr Nat) (all : List Oper) : List Oper → Nat → Bool
  | [], _ => true
  | o :: r, i => match readsOK mt wt i o.op.operands.toList with
    | true => match guardOK mt wt all i o.guard with
      | true => allReadsOK mt wt all r (Nat.succ i)
      | false => false
    | false => false
/-- What must come ahead of each, if the region's temporaries are in order. -/
noncomputable def planA (ops : Array Oper) : Option (Tr Nat) :=
  match masksA ops.toList 0 .e with
  | none => none
  | some mt => match writersA ops.toList 0 .e with
    | none => none
    | some wt => match allReadsOK mt wt ops.toList ops.toList 0 with
      | true => some mt
      | false => none

/-! ### Likeness of values -/
noncomputable def opB (a b : BinOp) : Bool := Nat.beq a.ctorIdx b.ctorIdx
noncomputable def seEq : SE → SE → Bool
  | .lit x, .lit y => ibeq x y
  | .var i, .var j => Nat.beq i j
  | .bin op k a b, .bin op' k' a' b' => match opB op op' with
    | true => match kindB k k' with
      | true => match seEq a a' with
        | true => seEq b b'
        | false => false
      | false => false
    | false => false
  | .conv k a, .conv k' a' => match kindB k k' with
    | true => seEq a a'
    | false => false
  | _, _ => false
noncomputable def sesEq : List SE → List SE → Bool
  | [], [] => true
  | x :: r, y :: s => match seEq x y with
    | true => sesEq r s
    | false => false
  | _, _ => false
noncomputable def bassEq : List ByteArray → List ByteArray → Bool
  | [], [] => true
  | x :: r, y :: s => match bytesB x.data.toList y.data.toList with
    | true => bassEq r s
    | false => false
  | _, _ => false
mutual
noncomputable def avEq (a b : AV) : Bool :=
  match a, b with
  | .bool p, .bool q => Bool.rec (motive := fun _ => Bool) (not q) q p
  | .int k x, .int k' y => match kindB k k' with
    | true => seEq x y
    | false => false
  | .str s, .str u => bytesB s.data.toList u.data.toList
  | .ustr l, .ustr r => sesEq l r
  | .ptr k o, .ptr k' o' => match Nat.beq k k' with
    | true => Nat.beq o o'
    | false => false
  | .nilp, .nilp => true
  | .sl k o l c e, .sl k' o' l' c' e' => match Nat.beq k k' with
    | true => match Nat.beq o o' with
      | true => match Nat.beq l l' with
        | true => match Nat.beq c c' with
          | true => Nat.beq e e'
          | false => false
        | false => false
      | false => false
    | false => false
  | .nils, .nils => true
  | .ostr i, .ostr j => Nat.beq i j
  | .zstr i, .zstr j => Nat.beq i j
  | .cstr e l, .cstr e' l' => match seEq e e' with
    | true => bassEq l l'
    | false => false
  | .mp k, .mp k' => Nat.beq k k'
  | .nilm, .nilm => true
  | .fn f [] [], .fn f' [] [] => Nat.beq f f'
  | .fn f [] c, .fn f' [] c' => match Nat.beq f f' with
    | true => avsEq c c'
    | false => false
  | .yld k, .yld k' => Nat.beq k k'
  | .nilf, .nilf => true
  | .nili, .nili => true
  | .ifc t v, .ifc t' v' => match Nat.beq t t' with
    | true => avEq v v'
    | false => false
  | .agg l, .agg l' => avsEq l l'
  | _, _ => false
noncomputable def avsEq (a b : List AV) : Bool :=
  match a, b with
  | [], [] => true
  | x :: r, y :: s => match avEq x y with
    | true => avsEq r s
    | false => false
  | _, _ => false
end
noncomputable def closedA (v : AV) : Bool :=
  match v with
  | .agg l => closedL l
  | .tup l => closedL l
  | v => closedS v

/-! ### The order of the text -/
noncomputable def isPure (E : Tr AV) (op : Op) : Bool :=
  match op with
  | .move _ => true
  | .assign _ => true
  | .pick .. => true
  | .build .. => true
  | .nilCheck _ => true
  | .binOp .. => true
  | .unOp .. => true
  | .convert _ _ x => match ev E x with
    | some (.int ..) => true
    | _ => false
  | .makeInterface .. => true
  | .makeFunc .. => true
  | .fieldAddr .. => true
  | .field .. => true
  | .indexAddr .. => true
  | .index .. => true
  | .extract .. => true
  | .typeAssert .. => true
  | .slice _ x _ _ _ => match ev E x with
    | some (.sl ..) => true
    | some .nils => true
    | some (.str _) => true
    | some (.ustr _) => true
    | _ => false
  | .call c => match c.callee with
    | .builtin b => match b with
      | .len => true
      | .max => true
      | .min => true
      | _ => false
    | _ => false
  | _ => false
noncomputable def sameLoad (P : Program) (S : Heap) (t : TypeId) (ad v : AV) : Bool :=
  match loadA P S t ad with
  | some u => avEq u v
  | none => false
/-- The load gives v as long as the effects that need not have been may not have been. -/
noncomputable def snapsOK (P : Program) (t : TypeId) (ad v : AV) (B : Nat) : List (Nat × Heap) → Bool
  | [] => true
  | (e, S) :: r => match bitA B e with
    | true => true
    | false => match sameLoad P S t ad v with
      | true => snapsOK P t ad v B r
      | false => false
noncomputable def loadsOK (P : Program) (S : Heap) (B : Nat) : List (Nat × TypeId × AV × AV) → Bool
  | [] => true
  | (i, t, ad, v) :: r => match bitA B i with
    | true => loadsOK P S B r
    | false => match sameLoad P S t ad v with
      | true => loadsOK P S B r
      | false => false
noncomputable def clearA : List Oper → Tr AV → Tr AV
  | [], E => E
  | o :: r, E => match o.dst with
    | none => clearA r E
    | some d => clearA r (E.put d none)
abbrev Rec := AM → Option (FuncId × Fin' × Heap)
noncomputable def emptyH : Heap := ⟨.e, 0⟩
/-- A call that hangs on no memory. -/
noncomputable def closedCall (P : Program) (D : Dec) (rec : Rec) (f : FuncId) (args : List AV) : Option AV :=
  match plugA D f args with
  | some v => some v
  | none => match closedL args with
    | false => none
    | true => match enterA P f args false with
      | none => none
      | some g => match rec ⟨g, [], emptyH⟩ with
        | some (_, .ret v, _) => match closedA v with
          | true => some v
          | false => none
        | _ => none
inductive EffR : Type where
  | ok (v : AV) (H : Heap)
  | pan (c : List AEnt) (H : Heap)
  | bad
noncomputable def effA (P : Program) (D : Dec) (rec : Rec) (H : Heap) (r : OpR) : EffR :=
  match r with
  | .val v H' => .ok v H'
  | .call f args => match D.hp f args H with
    | some (v, H') => .ok v H'
    | none => match enterA P f args false with
      | none => .bad
      | some g => match rec ⟨g, [], H⟩ with
        | some (_, .ret v, H') => .ok v H'
        | some (_, .pan c, H') => .pan c H'
        | none => .bad
  | .yield kk args => match H.tr.get kk with
    | some (.loop _ _ fn' nt' tm ps as bd _) => match bindA nt' tm ps.toList args with
      | some E' => match rec ⟨⟨fn', false, some kk, nt', E', [.code as, .beginRound, .code bd], [], .run⟩, [], H⟩ with
        | some (_, .ret v, H') => .ok v H'
        | some (_, .pan c, H') => .pan c H'
        | none => .bad
      | none => .bad
    | _ => .bad
  | .pan v => .pan [⟨v, false⟩] H
  | _ => .bad
/-- Behind an operation p that panics: what need not come behind it has no effect. -/
noncomputable def drawPan (P : Program) (D : Dec) (rec : Rec) (all : Array Oper) (mt : Tr Nat) (base nt : Nat) (E0 : Tr AV) (p : Nat) (c : List AEnt) (Hp : Heap) : List Oper → Nat → Tr AV → Heap → Heap → List (Nat × Heap) → List (Nat × TypeId × AV × AV) → Nat → Nat → DrawR
  | [], _, _, _, _, _, _, _, _ => .pan (clearA all.toList E0) c Hp
  | o :: rest, i, E, H, cur, sn, ld, am, xm => match bitA (og (mt.get i) 0) p with
    | true => match putA nt E o.dst (.tup []) with
      | some E' => drawPan P D rec all mt base nt E0 p c Hp rest (Nat.succ i) E' H cur sn ld am xm
      | none => .bad
    | false => match wantedA all E o with
      | none => .bad
      | some false => match putA nt E o.dst (.tup []) with
        | some E' => drawPan P D rec all mt base nt E0 p c Hp rest (Nat.succ i) E' H cur sn ld am xm
        | none => .bad
      | some true => match isPure E o.op with
        | true => match opA P D E H o.op with
          | .val v _ => match putA nt E o.dst v with
            | some E' => drawPan P D rec all mt base nt E0 p c Hp rest (Nat.succ i) E' H cur sn ld am xm
            | none => .bad
          | _ => .bad
        | false => match o.op with
          | .load t x => match ev E x with
            | some ad => match loadA P cur t ad with
              | some v => match snapsOK P t ad v (og (mt.get i) 0) sn with
                | true => match putA nt E o.dst v with
                  | some E' => drawPan P D rec all mt base nt E0 p c Hp rest (Nat.succ i) E' H cur sn ((i, t, ad, v) :: ld) am xm
                  | none => .bad
                | false => .bad
              | none => .bad
            | none => .bad
          | op => match opMk P E op with
            | some m => match putA nt E o.dst (m.2 (Nat.add base i)) with
              | some E' => drawPan P D rec all mt base nt E0 p c Hp rest (Nat.succ i) E' ⟨H.tr.put (Nat.add base i) (some m.1), H.next⟩ cur sn ld (Nat.lor am (Nat.pow 2 i)) xm
              | none => .bad
            | none => match (match opA P D E H op with | .call f args => closedCall P D rec f args | _ => none) with
              | some v => match putA nt E o.dst v with
                | some E' => drawPan P D rec all mt base nt E0 p c Hp rest (Nat.succ i) E' H cur sn ld am xm
                | none => .bad
              | none => .bad
/-- cur: the heap behind the last effect; sn: the effects, each with the heap ahead of it; ld: the loads; am, xm: what has made, what has had an effect. -/
noncomputable def drawGo (P : Program) (D : Dec) (rec : Rec) (all : Array Oper) (mt : Tr Nat) (n base nt : Nat) (E0 : Tr AV) : List Oper → Nat → Tr AV → Heap → Heap → List (Nat × Heap) → List (Nat × TypeId × AV × AV) → Nat → Nat → DrawR
  | [], _, E, H, _, _, _, _, _ => .ok E H
  | o :: rest, i, E, H, cur, sn, ld, am, xm => match wantedA all E o with
    | none => .bad
    | some false => match putA nt E o.dst (.tup []) with
      | some E' => drawGo P D rec all mt n base nt E0 rest (Nat.succ i) E' H cur sn ld am xm
      | none => .bad
    | some true => match isPure E o.op with
      | true => match opA P D E H o.op with
        | .val v _ => match putA nt E o.dst v with
          | some E' => drawGo P D rec all mt n base nt E0 rest (Nat.succ i) E' H cur sn ld am xm
          | none => .bad
        | _ => .bad
      | false => match o.op with
        | .load t x => match ev E x with
          | some ad => match loadA P cur t ad with
            | some v => match snapsOK P t ad v (og (mt.get i) 0) sn with
              | true => match putA nt E o.dst v with
                | some E' => drawGo P D rec all mt n base nt E0 rest (Nat.succ i) E' H cur sn ((i, t, ad, v) :: ld) am xm
                | none => .bad
              | false => .bad
            | none => .bad
          | none => .bad
        | op => match opMk P E op with
          | some m => match putA nt E o.dst (m.2 (Nat.add base i)) with
            | some E' => drawGo P D rec all mt n base nt E0 rest (Nat.succ i) E' ⟨H.tr.put (Nat.add base i) (some m.1), H.next⟩ cur sn ld (Nat.lor am (Nat.pow 2 i)) xm
            | none => .bad
          | none => match opA P D E H op with
            | r => match (match r with | .call f args => closedCall P D rec f args | _ => none) with
              | some v => match putA nt E o.dst v with
                | some E' => drawGo P D rec all mt n base nt E0 rest (Nat.succ i) E' H cur sn ld am xm
                | none => .bad
              | none => match Nat.beq (Nat.land (Nat.lor am xm) (og (mt.get i) 0)) (Nat.lor am xm) with
                | false => .bad
                | true => match effA P D rec H r with
                  | .ok v H' => match loadsOK P H' (og (mt.get i) 0) ld with
                    | true => match putA nt E o.dst v with
                      | some E' => drawGo P D rec all mt n base nt E0 rest (Nat.succ i) E' H' H' ((i, cur) :: sn) ld am (Nat.lor xm (Nat.pow 2 i))
                      | none => .bad
                    | false => .bad
                  | .pan c H' => match putA nt E o.dst (.tup []) with
                    | some E' => drawPan P D rec all mt base nt E0 i c H' rest (Nat.succ i) E' H cur sn ld am xm
                    | none => .bad
                  | .bad => .bad
noncomputable def drawA (P : Program) (D : Dec) (rec : Rec) : Rg := fun nt E H ops =>
  match planA ops with
  | none => .bad
  | some mt => drawGo P D rec ops mt ops.toList.length H.next nt E ops.toList 0 E ⟨H.tr, Nat.add H.next ops.toList.length⟩ ⟨H.tr, Nat.add H.next ops.toList.length⟩ [] [] 0 0

/-! ### Runs -/
noncomputable def run (P : Program) (D : Dec) (n : Nat) : Rec :=
  Nat.rec (motive := fun _ => Rec) (fun _ => none) (fun _ ih m =>
    SR.rec (motive := fun _ => Option (FuncId × Fin' × Heap)) (fun m' => ih m') (fun fn f H => some (fn, f, H)) (fun v H => some (0, .ret v, H)) none (astep P D (drawA P D ih) m)) n
end Vx
