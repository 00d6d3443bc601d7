/-
  The evaluator: the machine made ready; bounds; sums.
-/
import Derived.Test.YtgccmnnenhncpaaGreatDoorVmE
/-! Operations made ready: values as functions of the temporaries and the heap. -/
namespace Vx
open Go Go.RowKit

/-! ### Getters -/
structure GK : Type where
  g : Tr AV → Option AV
noncomputable def gOfV (v : Option AV) : GK := Option.rec (motive := fun _ => GK) ⟨fun _ => none⟩ (fun v => ⟨fun _ => some v⟩) v
noncomputable def mkG (x : Operand) : GK :=
  Operand.rec (motive := fun _ => GK) (fun t => Gt.rec (motive := fun _ => GK) (fun g => ⟨g⟩) (mkGt t)) (fun v => gOfV (ofV v)) (fun _ => ⟨fun _ => none⟩) (fun f => ⟨fun _ => some (.fn f [] [])⟩) x
theorem mkG_eq (x : Operand) (E : Tr AV) : (mkG x).g E = ev E x := by
  cases x with
  | tmp t => exact mkGt_eq t E
  | const v =>
    show (gOfV (ofV v)).g E = ofV v
    cases ofV v <;> rfl
  | global g => rfl
  | func f => rfl
structure GO : Type where
  g : Tr AV → Option (Option AV)
noncomputable def someO (v : Option AV) : Option (Option AV) := Option.rec (motive := fun _ => Option (Option AV)) none (fun v => some (some v)) v
noncomputable def mkGO (x : Option Operand) : GO :=
  Option.rec (motive := fun _ => GO) ⟨fun _ => some none⟩ (fun x => GK.rec (motive := fun _ => GO) (fun g => ⟨fun E => someO (g E)⟩) (mkG x)) x
theorem mkGO_eq (x : Option Operand) (E : Tr AV) : (mkGO x).g E = evo E x := by
  cases x with
  | none => rfl
  | some x =>
    show someO ((mkG x).g E) = evo E (some x)
    rw [mkG_eq]
    simp only [evo]
    cases ev E x <;> rfl

/-! ### Whole numbers that are known -/
inductive VI : Type where
  | lit (k : IntKind) (n : Int)
  | no
noncomputable def viewE (k : IntKind) (e : SE) : VI := SE.rec (motive := fun _ => VI) (fun n => .lit k n) (fun _ => .no) (fun _ _ _ _ _ _ => .no) (fun _ _ _ => .no) e
noncomputable def viewI (v : AV) : VI :=
  AV.rec (motive_1 := fun _ => VI) (motive_2 := fun _ => VI) (fun _ => .no) viewE (fun _ _ => .no) (fun _ => .no) (fun _ => .no) (fun _ _ => .no) .no (fun _ _ _ _ _ => .no) .no (fun _ => .no) .no
    (fun _ _ _ _ _ => .no) (fun _ => .no) .no (fun _ _ _ => .no) .no (fun _ _ => .no) (fun _ _ => .no) (fun _ _ => .no) (fun _ => .no) (fun _ _ _ _ => .no) .no (fun _ _ => .no) (fun _ => .no) (fun _ => .no) (fun _ _ => .no) (fun _ _ _ _ _ => .no) (fun _ => .no) .no (fun _ _ _ _ => .no) v
theorem viewI_ok {v : AV} {k : IntKind} {n : Int} (h : viewI v = .lit k n) : v = .int k (.lit n) := by
  cases v with
  | int k' e =>
    cases e with
    | lit m => simp only [viewI, viewE, VI.lit.injEq] at h; obtain ⟨rfl, rfl⟩ := h; rfl
    | _ => simp [viewI, viewE] at h
  | _ => simp [viewI] at h
noncomputable def natI (v : AV) : Option Nat := VI.rec (motive := fun _ => Option Nat) (fun _ n => Int.rec (motive := fun _ => Option Nat) (fun i => some i) (fun _ => none) n) none (viewI v)
theorem natI_ok {v : AV} {i : Nat} (h : natI v = some i) : natOf v = some i := by
  unfold natI at h
  cases hv : viewI v with
  | no => rw [hv] at h; cases h
  | lit k n =>
    rw [hv] at h
    have := viewI_ok hv
    subst this
    cases n with
    | ofNat m => exact h
    | negSucc m => cases h
noncomputable def i64s (k k' : IntKind) : Bool := Bool.rec (motive := fun _ => Bool) false (kindB k' .i64) (kindB k .i64)
theorem i64s_ok {k k' : IntKind} (h : i64s k k' = true) : k = .i64 ∧ k' = .i64 := by
  unfold i64s at h
  cases h1 : kindB k .i64 with
  | false => rw [h1] at h; cases h
  | true => rw [h1] at h; exact ⟨kindB_eq h1, kindB_eq h⟩
noncomputable def orElse (d : Option AV) (v : Option AV) : Option AV := Option.rec (motive := fun _ => Option AV) d (fun v => some v) v
noncomputable def qNN (f : Nat → Nat → Option AV) (g : BT) : BT := fun k k' x y =>
  Bool.rec (motive := fun _ => Option AV) (g k k' x y) (Int.rec (motive := fun _ => Option AV) (fun m => Int.rec (motive := fun _ => Option AV) (fun n => orElse (g k k' x y) (f m n)) (fun _ => g k k' x y) y) (fun _ => g k k' x y) x) (i64s k k')
theorem qNN_ok {f : Nat → Nat → Option AV} {g : BT} (hf : ∀ m n v, f m n = some v → g .i64 .i64 (.ofNat m) (.ofNat n) = some v) (k k' : IntKind) (x y : Int) : qNN f g k k' x y = g k k' x y := by
  unfold qNN
  cases h : i64s k k' with
  | false => rfl
  | true =>
    obtain ⟨rfl, rfl⟩ := i64s_ok h
    cases x with
    | negSucc m => rfl
    | ofNat m =>
      cases y with
      | negSucc n => rfl
      | ofNat n =>
        show orElse _ (f m n) = _
        unfold orElse
        cases hv : f m n with
        | none => rfl
        | some v => exact (hf m n v hv).symm
noncomputable def some64 (r : Nat) : Option AV := some (.int .i64 (.lit (.ofNat r)))
noncomputable def nAdd (m n : Nat) : Option AV := Bool.rec (motive := fun _ => Option AV) none (forceNat (Nat.add m n) some64) (Nat.ble (Nat.add m n) 9223372036854775807)
noncomputable def nSub (m n : Nat) : Option AV := Bool.rec (motive := fun _ => Option AV) none (Bool.rec (motive := fun _ => Option AV) none (forceNat (Nat.sub m n) some64) (Nat.ble m 9223372036854775807)) (Nat.ble n m)
noncomputable def someB (b : Bool) : Option AV := some (.bool b)
noncomputable def nEql (m n : Nat) : Option AV := forceBool (Nat.beq m n) someB
noncomputable def notB (b : Bool) : Option AV := some (.bool (not b))
noncomputable def someN (b : Bool) : Option AV := Bool.rec (motive := fun _ => Option AV) (some (.bool true)) (some (.bool false)) b
noncomputable def nNeq (m n : Nat) : Option AV := someN (Nat.beq m n)
noncomputable def nLss (m n : Nat) : Option AV := forceBool (Nat.ble (Nat.succ m) n) someB
noncomputable def nLeq (m n : Nat) : Option AV := forceBool (Nat.ble m n) someB
noncomputable def nGtr (m n : Nat) : Option AV := forceBool (Nat.ble (Nat.succ n) m) someB
noncomputable def nGeq (m n : Nat) : Option AV := forceBool (Nat.ble n m) someB
theorem kind64 : kindB .i64 .i64 = true := rfl
theorem wrap64_lit {z : Int} (h : wrapF .i64 z = z) : bI (fun k _ _ => wrapF k z) .i64 .i64 0 0 = some (.int .i64 (.lit z)) := by
  simp only [bI, kind64, forceInt_eq, h]
theorem nAdd_ok (m n : Nat) (v : AV) (h : nAdd m n = some v) : bAdd .i64 .i64 (.ofNat m) (.ofNat n) = some v := by
  unfold nAdd at h
  cases hb : Nat.ble (Nat.add m n) 9223372036854775807 with
  | false => rw [hb] at h; cases h
  | true =>
    rw [hb] at h
    have h : forceNat (Nat.add m n) some64 = some v := h
    rw [forceNat_eq] at h
    simp only [bAdd, bI, kind64, forceInt_eq]
    rw [← h]
    show some (AV.int IntKind.i64 (SE.lit (wrapF .i64 (Int.ofNat (Nat.add m n))))) = _
    have : wrapF .i64 (Int.ofNat (Nat.add m n)) = Int.ofNat (Nat.add m n) := by
      show Bool.rec (motive := fun _ => Int) _ _ (Nat.ble (Nat.add m n) 9223372036854775807) = _
      rw [hb]
    rw [this]; rfl
theorem nSub_ok (m n : Nat) (v : AV) (h : nSub m n = some v) : bSub .i64 .i64 (.ofNat m) (.ofNat n) = some v := by
  unfold nSub at h
  cases hb : Nat.ble n m with
  | false => rw [hb] at h; cases h
  | true =>
    rw [hb] at h
    cases hc : Nat.ble m 9223372036854775807 with
    | false => rw [hc] at h; cases h
    | true =>
      rw [hc] at h
      have h : forceNat (Nat.sub m n) some64 = some v := h
      rw [forceNat_eq] at h
      simp only [bSub, bI, kind64, forceInt_eq]
      rw [← h]
      have h1 := Nat.le_of_ble_eq_true hb
      have h2 := Nat.le_of_ble_eq_true hc
      have e : Int.sub (Int.ofNat m) (Int.ofNat n) = Int.ofNat (Nat.sub m n) := by
        show (m : Int) - (n : Int) = ((m - n : Nat) : Int)
        omega
      rw [e]
      have : wrapF .i64 (Int.ofNat (Nat.sub m n)) = Int.ofNat (Nat.sub m n) := by
        show Bool.rec (motive := fun _ => Int) _ _ (Nat.ble (Nat.sub m n) 9223372036854775807) = _
        have e2 : Nat.ble (Nat.sub m n) 9223372036854775807 = true := Nat.ble_eq_true_of_le (show m - n ≤ 9223372036854775807 by omega)
        rw [e2]
      rw [this]; rfl
theorem ibeq_nat (m n : Nat) : ibeq (.ofNat m) (.ofNat n) = Nat.beq m n := by
  rw [ibeq_eq, Bool.eq_iff_iff, beq_iff_eq, Nat.beq_eq]
  exact ⟨fun h => Int.ofNat.inj h, fun h => by rw [h]⟩
theorem iblt_nat (m n : Nat) : iblt (.ofNat m) (.ofNat n) = Nat.ble (Nat.succ m) n := by
  rw [iblt_eq, Bool.eq_iff_iff, decide_eq_true_iff]
  constructor
  · intro h; exact Nat.ble_eq_true_of_le (show m + 1 ≤ n by have : (m : Int) < (n : Int) := h; omega)
  · intro h; have := Nat.le_of_ble_eq_true h; show (m : Int) < (n : Int); omega
theorem ble_not (m n : Nat) : Nat.ble m n = not (Nat.ble (Nat.succ n) m) := by
  rcases Nat.lt_or_ge n m with h | h
  · rw [Nat.ble_eq_true_of_le (show n + 1 ≤ m from h)]
    cases hb : Nat.ble m n with
    | false => rfl
    | true => have := Nat.le_of_ble_eq_true hb; omega
  · rw [Nat.ble_eq_true_of_le h]
    cases hb : Nat.ble (Nat.succ n) m with
    | false => rfl
    | true => have := Nat.le_of_ble_eq_true hb; omega
theorem bB_nat {f : Int → Int → Bool} {x y : Int} {b : Bool} (h : f x y = b) : bB f .i64 .i64 x y = some (.bool b) := by
  simp only [bB, kind64, forceBool_eq, h]
theorem nEql_ok (m n : Nat) (v : AV) (h : nEql m n = some v) : bEql .i64 .i64 (.ofNat m) (.ofNat n) = some v := by
  unfold nEql at h; rw [forceBool_eq] at h; rw [← h]; exact bB_nat (ibeq_nat m n)
theorem nNeq_ok (m n : Nat) (v : AV) (h : nNeq m n = some v) : bNeq .i64 .i64 (.ofNat m) (.ofNat n) = some v := by
  unfold nNeq at h
  have e : someN (Nat.beq m n) = some (.bool (not (Nat.beq m n))) := by cases Nat.beq m n <;> rfl
  rw [e] at h; rw [← h]; exact bB_nat (f := fun x y => not (ibeq x y)) (by rw [ibeq_nat])
theorem nLss_ok (m n : Nat) (v : AV) (h : nLss m n = some v) : bLss .i64 .i64 (.ofNat m) (.ofNat n) = some v := by
  unfold nLss at h; rw [forceBool_eq] at h; rw [← h]; exact bB_nat (iblt_nat m n)
theorem nGtr_ok (m n : Nat) (v : AV) (h : nGtr m n = some v) : bGtr .i64 .i64 (.ofNat m) (.ofNat n) = some v := by
  unfold nGtr at h; rw [forceBool_eq] at h; rw [← h]; exact bB_nat (f := fun x y => iblt y x) (iblt_nat n m)
theorem nLeq_ok (m n : Nat) (v : AV) (h : nLeq m n = some v) : bLeq .i64 .i64 (.ofNat m) (.ofNat n) = some v := by
  unfold nLeq at h; rw [forceBool_eq] at h; rw [← h]; exact bB_nat (f := fun x y => not (iblt y x)) (by rw [iblt_nat, ← ble_not])
theorem nGeq_ok (m n : Nat) (v : AV) (h : nGeq m n = some v) : bGeq .i64 .i64 (.ofNat m) (.ofNat n) = some v := by
  unfold nGeq at h; rw [forceBool_eq] at h; rw [← h]; exact bB_nat (f := fun x y => not (iblt x y)) (by rw [iblt_nat, ← ble_not])
structure BK : Type where
  f : BT
noncomputable def mkB (op : BinOp) : BK :=
  BinOp.rec (motive := fun _ => BK) ⟨qNN nAdd bAdd⟩ ⟨qNN nSub bSub⟩ ⟨bMul⟩ ⟨bGen .quo⟩ ⟨bGen .rem⟩ ⟨bGen .and⟩ ⟨bGen .or⟩ ⟨bGen .xor⟩ ⟨bGen .shl⟩ ⟨bGen .shr⟩ ⟨bGen .andNot⟩ ⟨qNN nEql bEql⟩ ⟨qNN nNeq bNeq⟩ ⟨qNN nLss bLss⟩ ⟨qNN nLeq bLeq⟩ ⟨qNN nGtr bGtr⟩ ⟨qNN nGeq bGeq⟩ op
theorem mkB_eq (op : BinOp) (k k' : IntKind) (x y : Int) : (mkB op).f k k' x y = litBin op k k' x y := by
  cases op <;> first
    | rfl
    | exact qNN_ok nAdd_ok k k' x y
    | exact qNN_ok nSub_ok k k' x y
    | exact qNN_ok nEql_ok k k' x y
    | exact qNN_ok nNeq_ok k k' x y
    | exact qNN_ok nLss_ok k k' x y
    | exact qNN_ok nLeq_ok k k' x y
    | exact qNN_ok nGtr_ok k k' x y
    | exact qNN_ok nGeq_ok k k' x y
noncomputable def binZ2 (bf : BT) (sl : AV → AV → Option AV) (a b : AV) (k : IntKind) (n : Int) (vb : VI) : Option AV := VI.rec (motive := fun _ => Option AV) (fun k' m => bf k k' n m) (sl a b) vb
noncomputable def binZ (bf : BT) (sl : AV → AV → Option AV) (a b : AV) : Option AV := VI.rec (motive := fun _ => Option AV) (fun k n => binZ2 bf sl a b k n (viewI b)) (sl a b) (viewI a)
theorem binZ_eq (P : Program) (D : Dec) (op : BinOp) (t : TypeId) (y : Operand) (a b : AV) : binZ (mkB op).f (binB P D op t y) a b = binB P D op t y a b := by
  unfold binZ
  cases ha : viewI a with
  | no => rfl
  | lit k n =>
    show binZ2 _ _ a b k n (viewI b) = _
    unfold binZ2
    cases hb : viewI b with
    | no => rfl
    | lit k' m =>
      show (mkB op).f k k' n m = _
      have e1 := viewI_ok ha
      have e2 := viewI_ok hb
      subst e1; subst e2
      rw [mkB_eq, litBin_eq D]
      unfold binB
      show _ = (match intBinA D op k (.lit n) k' (.lit m) with
        | some r => some r
        | none => nilNil P op t y (AV.int k (SE.lit n)) (AV.int k' (SE.lit m)))
      cases intBinA D op k (.lit n) k' (.lit m) with
      | none => simp [nilNil]
      | some r => rfl

/-! ### Values made ready -/
structure VK : Type where
  f : Tr AV → Heap → Option AV
def VOK (P : Program) (D : Dec) (op : Op) (vk : VK) : Prop := ∀ E H v, vk.f E H = some v → opA P D E H op = .val v H
noncomputable def ob1 (f : AV → Option AV) (a : Option AV) : Option AV := Option.rec (motive := fun _ => Option AV) none f a
noncomputable def ob2 (f : AV → AV → Option AV) (a b : Option AV) : Option AV := Option.rec (motive := fun _ => Option AV) none (fun a => Option.rec (motive := fun _ => Option AV) none (fun b => f a b) b) a
theorem ob1_some {f : AV → Option AV} {a : Option AV} {v : AV} (h : ob1 f a = some v) : ∃ x, a = some x ∧ f x = some v := by
  cases a with
  | none => cases h
  | some x => exact ⟨x, rfl, h⟩
theorem ob2_some {f : AV → AV → Option AV} {a b : Option AV} {v : AV} (h : ob2 f a b = some v) : ∃ x y, a = some x ∧ b = some y ∧ f x y = some v := by
  cases a with
  | none => cases h
  | some x => cases b with
    | none => cases h
    | some y => exact ⟨x, y, rfl, rfl, h⟩
noncomputable def vk0 (x : Operand) : VK := GK.rec (motive := fun _ => VK) (fun g => ⟨fun E _ => g E⟩) (mkG x)
noncomputable def vk1 (f : AV → Option AV) (x : Operand) : VK := GK.rec (motive := fun _ => VK) (fun g => ⟨fun E _ => ob1 f (g E)⟩) (mkG x)
noncomputable def vk1H (f : Heap → AV → Option AV) (x : Operand) : VK := GK.rec (motive := fun _ => VK) (fun g => ⟨fun E H => ob1 (f H) (g E)⟩) (mkG x)
noncomputable def vk2 (f : AV → AV → Option AV) (x y : Operand) : VK := GK.rec (motive := fun _ => VK) (fun g => GK.rec (motive := fun _ => VK) (fun h => ⟨fun E _ => ob2 f (g E) (h E)⟩) (mkG y)) (mkG x)
theorem vk0_f (x : Operand) (E : Tr AV) (H : Heap) : (vk0 x).f E H = ev E x := mkG_eq x E
theorem vk1_f (f : AV → Option AV) (x : Operand) (E : Tr AV) (H : Heap) : (vk1 f x).f E H = ob1 f (ev E x) := congrArg (ob1 f) (mkG_eq x E)
theorem vk1H_f (f : Heap → AV → Option AV) (x : Operand) (E : Tr AV) (H : Heap) : (vk1H f x).f E H = ob1 (f H) (ev E x) := congrArg (ob1 (f H)) (mkG_eq x E)
theorem vk2_f (f : AV → AV → Option AV) (x y : Operand) (E : Tr AV) (H : Heap) : (vk2 f x y).f E H = ob2 f (ev E x) (ev E y) := by
  show ob2 f ((mkG x).g E) ((mkG y).g E) = _
  rw [mkG_eq, mkG_eq]
theorem VOK.one {P : Program} {D : Dec} {op : Op} {x : Operand} {f : AV → Option AV} (h : ∀ E H a v, ev E x = some a → f a = some v → opA P D E H op = .val v H) : VOK P D op (vk1 f x) := fun E H v hv => by
  rw [vk1_f] at hv
  obtain ⟨a, h1, h2⟩ := ob1_some hv
  exact h E H a v h1 h2
theorem VOK.oneH {P : Program} {D : Dec} {op : Op} {x : Operand} {f : Heap → AV → Option AV} (h : ∀ E H a v, ev E x = some a → f H a = some v → opA P D E H op = .val v H) : VOK P D op (vk1H f x) := fun E H v hv => by
  rw [vk1H_f] at hv
  obtain ⟨a, h1, h2⟩ := ob1_some hv
  exact h E H a v h1 h2
theorem VOK.two {P : Program} {D : Dec} {op : Op} {x y : Operand} {f : AV → AV → Option AV} (h : ∀ E H a b v, ev E x = some a → ev E y = some b → f a b = some v → opA P D E H op = .val v H) : VOK P D op (vk2 f x y) := fun E H v hv => by
  rw [vk2_f] at hv
  obtain ⟨a, b, h1, h2, h3⟩ := ob2_some hv
  exact h E H a b v h1 h2 h3

/-- pick -/
noncomputable def pickV (a b : Option AV) (c : AV) : Option AV := V1.rec (motive := fun _ => Option AV) (fun _ _ => none) (fun t => Bool.rec (motive := fun _ => Option AV) b a t) (fun _ _ => none) none none (view1 c)
noncomputable def vkPick (c a b : Operand) : VK :=
  GK.rec (motive := fun _ => VK) (fun gc => GK.rec (motive := fun _ => VK) (fun ga => GK.rec (motive := fun _ => VK) (fun gb => ⟨fun E _ => ob1 (pickV (ga E) (gb E)) (gc E)⟩) (mkG b)) (mkG a)) (mkG c)
theorem vkPick_f (c a b : Operand) (E : Tr AV) (H : Heap) : (vkPick c a b).f E H = ob1 (pickV (ev E a) (ev E b)) (ev E c) := by
  show ob1 (pickV ((mkG a).g E) ((mkG b).g E)) ((mkG c).g E) = _
  rw [mkG_eq, mkG_eq, mkG_eq]
theorem vkPick_ok (P : Program) (D : Dec) (c a b : Operand) : VOK P D (.pick c a b) (vkPick c a b) := fun E H v hv => by
  rw [vkPick_f] at hv
  obtain ⟨u, h1, h2⟩ := ob1_some hv
  cases u with
  | bool t =>
    cases t with
    | true => have h2 : ev E a = some v := h2; simp [opA, h1, h2, val1]
    | false => have h2 : ev E b = some v := h2; simp [opA, h1, h2, val1]
  | _ => cases h2
/-- load -/
inductive LI : Type where
  | agg (n : Nat)
  | one
  | no
noncomputable def mkLI (P : Program) (t : TypeId) : LI :=
  match undT P t with
  | some ds => match aggD ds with
    | true => match infoT P t with
      | some i => .agg i.size
      | none => .no
    | false => .one
  | none => .no
noncomputable def cgetS (d : AV) (v : Option AV) : Option AV := Option.rec (motive := fun _ => Option AV) (some d) (fun v => some v) v
theorem cgetS_eq (c : Tr AV) (d : AV) (i : Nat) : cgetS d (c.get i) = some (cget c d i) := by
  unfold cgetS cget
  cases c.get i <;> rfl
noncomputable def ldC (li : LI) (o : Nat) (c : Tr AV) (d : AV) (m : Nat) : Option AV :=
  LI.rec (motive := fun _ => Option AV) (fun n => Bool.rec (motive := fun _ => Option AV) none (some (.agg (cellsFrom c d o n))) (Nat.ble (Nat.add o n) m)) (Bool.rec (motive := fun _ => Option AV) none (cgetS d (c.get o)) (Nat.ble (Nat.succ o) m)) none li
noncomputable def ldB (li : LI) (o : Nat) (b : AObj) : Option AV :=
  AObj.rec (motive := fun _ => Option AV) (fun c d m _ => ldC li o c d m) (fun _ => none) (fun _ _ _ _ _ _ _ _ _ => none) none (fun _ _ => none) b
noncomputable def ldO (li : LI) (o : Nat) (b : Option AObj) : Option AV := Option.rec (motive := fun _ => Option AV) none (ldB li o) b
noncomputable def ldP (li : LI) (H : Heap) (k o : Nat) : Option AV := ldO li o (H.tr.get k)
noncomputable def ldA (li : LI) (H : Heap) (a : AV) : Option AV := V1.rec (motive := fun _ => Option AV) (fun _ _ => none) (fun _ => none) (ldP li H) none none (view1 a)
theorem ldA_ok {P : Program} {H : Heap} {t : TypeId} {a v : AV} (h : ldA (mkLI P t) H a = some v) : loadA P H t a = some v := by
  cases a with
  | ptr k o =>
    have h : ldO (mkLI P t) o (H.tr.get k) = some v := h
    unfold loadA
    dsimp only
    cases hk : H.tr.get k with
    | none => rw [hk] at h; cases h
    | some b =>
      rw [hk] at h
      cases b with
      | cells c d m e =>
        have h : ldC (mkLI P t) o c d m = some v := h
        dsimp only
        cases hu : undT P t with
        | none =>
          have e1 : mkLI P t = .no := by unfold mkLI; rw [hu]
          rw [e1] at h; cases h
        | some ds =>
          dsimp only
          cases ha : aggD ds with
          | true =>
            dsimp only
            cases hi : infoT P t with
            | none =>
              have e1 : mkLI P t = .no := by unfold mkLI; rw [hu]; dsimp only; rw [ha]; dsimp only; rw [hi]
              rw [e1] at h; cases h
            | some i =>
              have e1 : mkLI P t = .agg i.size := by unfold mkLI; rw [hu]; dsimp only; rw [ha]; dsimp only; rw [hi]
              rw [e1] at h
              have h : Bool.rec (motive := fun _ => Option AV) none (some (.agg (cellsFrom c d o i.size))) (Nat.ble (Nat.add o i.size) m) = some v := h
              dsimp only
              cases hb : Nat.ble (Nat.add o i.size) m with
              | false => rw [hb] at h; cases h
              | true => rw [hb] at h; exact h
          | false =>
            have e1 : mkLI P t = .one := by unfold mkLI; rw [hu]; dsimp only; rw [ha]
            rw [e1] at h
            have h : Bool.rec (motive := fun _ => Option AV) none (cgetS d (c.get o)) (Nat.ble (Nat.succ o) m) = some v := h
            dsimp only
            cases hb : Nat.ble (Nat.succ o) m with
            | false => rw [hb] at h; cases h
            | true => rw [hb] at h; rw [← h]; exact (cgetS_eq c d o).symm
      | _ => cases h
  | _ => cases h
/-- nilCheck -/
noncomputable def nilV (a : AV) : Option AV := V1.rec (motive := fun _ => Option AV) (fun _ _ => none) (fun _ => none) (fun k o => some (.ptr k o)) none none (view1 a)
/-- not -/
noncomputable def notV (a : AV) : Option AV := V1.rec (motive := fun _ => Option AV) (fun _ _ => none) someN (fun _ _ => none) none none (view1 a)
/-- fieldAddr -/
noncomputable def fieldOff (P : Program) (t : TypeId) (f : Nat) : Option Nat :=
  match undT P t with
  | some (.struct fields) => match nth fields.toList f with
    | some fd => match infoT P fd.type with
      | some i => match Nat.ble 1 i.size with
        | true => some fd.offset
        | false => none
      | none => none
    | none => none
  | _ => none
noncomputable def somePtr (k p : Nat) : Option AV := some (.ptr k p)
noncomputable def faP (off k o : Nat) : Option AV := forceNat (Nat.add o off) (somePtr k)
noncomputable def faV (off : Nat) (a : AV) : Option AV := V1.rec (motive := fun _ => Option AV) (fun _ _ => none) (fun _ => none) (faP off) none none (view1 a)
theorem faV_ok {P : Program} {t : TypeId} {f off : Nat} (hf : fieldOff P t f = some off) {a v : AV} (h : faV off a = some v) : fieldAtA P t a f = some v := by
  cases a with
  | ptr k o =>
    have h : forceNat (Nat.add o off) (somePtr k) = some v := h
    rw [forceNat_eq] at h
    unfold fieldOff at hf
    unfold fieldAtA
    dsimp only
    split at hf
    · rename_i fields hu
      rw [hu]; dsimp only
      split at hf
      · rename_i fd hn
        rw [hn]; dsimp only
        split at hf
        · rename_i i hi
          rw [hi]; dsimp only
          split at hf
          · rename_i hb
            rw [hb]; dsimp only
            cases hf
            exact h
          · cases hf
        · cases hf
      · cases hf
    · cases hf
  | _ => cases h
/-- indexAddr -/
inductive XI : Type where
  | sl (e : Nat)
  | ar (n e : Nat)
  | no
noncomputable def mkXI (P : Program) (t : TypeId) : XI :=
  match undT P t with
  | some (.slice e) => match infoT P e with
    | some ie => .sl ie.size
    | none => .no
  | some (.array n e) => match infoT P e with
    | some ie => .ar n ie.size
    | none => .no
  | _ => .no
inductive V2 : Type where
  | ptr (k o : Nat)
  | sl (k o len : Nat)
  | nils
  | no
noncomputable def view2 (v : AV) : V2 :=
  AV.rec (motive_1 := fun _ => V2) (motive_2 := fun _ => V2) (fun _ => .no) (fun _ _ => .no) (fun _ _ => .no) (fun _ => .no) (fun _ => .no) (fun k o => .ptr k o) .no (fun k o len _ _ => .sl k o len) .nils (fun _ => .no) .no
    (fun _ _ _ _ _ => .no) (fun _ => .no) .no (fun _ _ _ => .no) .no (fun _ _ => .no) (fun _ _ => .no) (fun _ _ => .no) (fun _ => .no) (fun _ _ _ _ => .no) .no (fun _ _ => .no) (fun _ => .no) (fun _ => .no) (fun _ _ => .no) (fun _ _ _ _ _ => .no) (fun _ => .no) .no (fun _ _ _ _ => .no) v
noncomputable def ixS (k o e len i : Nat) : Option AV := Bool.rec (motive := fun _ => Option AV) none (forceNat (Nat.add o (Nat.mul i e)) (somePtr k)) (Nat.ble (Nat.succ i) len)
noncomputable def ixPtr (xi : XI) (i k o : Nat) : Option AV := XI.rec (motive := fun _ => Option AV) (fun _ => none) (fun n e => ixS k o e n i) none xi
noncomputable def ixSl (xi : XI) (i k o len : Nat) : Option AV := XI.rec (motive := fun _ => Option AV) (fun e => ixS k o e len i) (fun _ _ => none) none xi
noncomputable def ixN (xi : XI) (a : AV) (i : Nat) : Option AV := V2.rec (motive := fun _ => Option AV) (ixPtr xi i) (ixSl xi i) none none (view2 a)
noncomputable def ixV (xi : XI) (a b : AV) : Option AV := Option.rec (motive := fun _ => Option AV) none (ixN xi a) (natI b)
theorem ixN_ok {P : Program} {t : TypeId} {a b v : AV} (h : ixV (mkXI P t) a b = some v) : indexAtN P t a b = some v := by
  unfold ixV at h
  cases hn : natI b with
  | none => rw [hn] at h; cases h
  | some i =>
    rw [hn] at h
    have h : ixN (mkXI P t) a i = some v := h
    unfold indexAtN
    rw [natI_ok hn]
    dsimp only
    have key : ∀ k o e len, ixS k o e len i = some v → Nat.ble (Nat.succ i) len = true ∧ some (AV.ptr k (Nat.add o (Nat.mul i e))) = some v := fun k o e len hs => by
      unfold ixS at hs
      cases hb : Nat.ble (Nat.succ i) len with
      | false => rw [hb] at hs; cases hs
      | true =>
        rw [hb] at hs
        have hs : forceNat (Nat.add o (Nat.mul i e)) (somePtr k) = some v := hs
        rw [forceNat_eq] at hs
        exact ⟨rfl, hs⟩
    cases a with
    | ptr k o =>
      have h : ixPtr (mkXI P t) i k o = some v := h
      dsimp only
      cases hx : mkXI P t with
      | no => rw [hx] at h; cases h
      | sl e => rw [hx] at h; cases h
      | ar n e =>
        rw [hx] at h
        obtain ⟨h1, h2⟩ := key k o e n h
        unfold mkXI at hx
        split at hx
        · split at hx <;> cases hx
        · rename_i n' e' hu
          rw [hu]; dsimp only
          split at hx
          · rename_i ie hi
            cases hx
            rw [h1]; dsimp only
            rw [hi]; exact h2
          · cases hx
        · cases hx
    | sl k o len cap esz =>
      have h : ixSl (mkXI P t) i k o len = some v := h
      dsimp only
      cases hx : mkXI P t with
      | no => rw [hx] at h; cases h
      | ar n e => rw [hx] at h; cases h
      | sl e =>
        rw [hx] at h
        obtain ⟨h1, h2⟩ := key k o e len h
        unfold mkXI at hx
        split at hx
        · rename_i e' hu
          rw [hu]; dsimp only
          split at hx
          · rename_i ie hi
            cases hx
            rw [h1]; dsimp only
            rw [hi]; exact h2
          · cases hx
        · split at hx <;> cases hx
        · cases hx
    | _ => cases h
theorem ixV_ok {P : Program} {t : TypeId} {a b v : AV} (h : ixV (mkXI P t) a b = some v) : indexAtA P t a b = some v := by
  unfold indexAtA
  rw [ixN_ok h]
/-- len -/
noncomputable def isSl (P : Program) (t : TypeId) : Bool :=
  match undT P t with
  | some (.slice _) => true
  | _ => false
noncomputable def lenQ (sl : AV → Option AV) (a : AV) : Option AV := V2.rec (motive := fun _ => Option AV) (fun _ _ => sl a) (fun _ _ len => some64 len) (sl a) (sl a) (view2 a)
noncomputable def lenK (P : Program) (t : TypeId) : AV → Option AV := Bool.rec (motive := fun _ => AV → Option AV) (lenX P t) (lenQ (lenX P t)) (isSl P t)
theorem lenK_eq (P : Program) (t : TypeId) (a : AV) : lenK P t a = lenX P t a := by
  unfold lenK
  cases h : isSl P t with
  | false => rfl
  | true =>
    show lenQ (lenX P t) a = _
    cases a with
    | sl k o len cap esz =>
      show some64 len = lenA P t (.sl k o len cap esz)
      unfold isSl at h
      unfold lenA
      split at h
      · rename_i e hu; rw [hu]; rfl
      · cases h
    | _ => rfl
end Vx

/-! The machine made ready: each piece of code becomes one function of the frame, its temporaries and the heap. -/
namespace Vx
open Go Go.RowKit

/-! ### Which values are made ready -/
noncomputable def vNot (op : UnOp) (x : Operand) : Option VK :=
  match op with
  | .not => some (vk1 notV x)
  | _ => none
noncomputable def vIfc (P : Program) (t : TypeId) (x : Operand) : Option VK :=
  match undT P t with
  | some d => match isIface d with
    | true => none
    | false => some (vk1 (fun v => some (.ifc t v)) x)
  | none => none
noncomputable def obO (f : Option AV → Option AV → Option AV) (l h : Option (Option AV)) : Option AV :=
  Option.rec (motive := fun _ => Option AV) none (fun l => Option.rec (motive := fun _ => Option AV) none (fun h => f l h) h) l
noncomputable def slF (P : Program) (t : TypeId) (H : Heap) (l h : Option (Option AV)) (a : AV) : Option AV := obO (fun l h => sliceX P H t a l h) l h
noncomputable def vkSl (P : Program) (t : TypeId) (x : Operand) (lo hi : Option Operand) : VK :=
  GK.rec (motive := fun _ => VK) (fun g => GO.rec (motive := fun _ => VK) (fun gl => GO.rec (motive := fun _ => VK) (fun gh => ⟨fun E H => ob1 (slF P t H (gl E) (gh E)) (g E)⟩) (mkGO hi)) (mkGO lo)) (mkG x)
noncomputable def vSl (P : Program) (t : TypeId) (x : Operand) (lo hi mx : Option Operand) : Option VK :=
  match mx with
  | none => some (vkSl P t x lo hi)
  | some _ => none
noncomputable def vFa (P : Program) (t : TypeId) (x : Operand) (f : Nat) : Option VK := Option.rec (motive := fun _ => Option VK) none (fun off => some (vk1 (faV off) x)) (fieldOff P t f)
noncomputable def vLen (P : Program) (c : Call) : Option VK :=
  match c.callee with
  | .builtin b => match b with
    | .len => match c.args.toList with
      | [x] => match nth c.argTypes.toList 0 with
        | some t => some (vk1 (lenK P t) x)
        | none => none
      | _ => none
    | _ => none
  | _ => none
noncomputable def vBin (P : Program) (D : Dec) (op : BinOp) (t : TypeId) (x y : Operand) : VK := BK.rec (motive := fun _ => VK) (fun bf => vk2 (binZ bf (binB P D op t y)) x y) (mkB op)
noncomputable def mkV (P : Program) (D : Dec) (op : Op) : Option VK :=
  Op.rec (motive := fun _ => Option VK) (fun x => some (vk0 x)) (fun x => some (vk0 x)) (fun c a b => some (vkPick c a b)) (fun _ => none) (fun _ _ => none) (fun _ _ => none) (fun _ _ _ => none) (fun _ _ _ _ => none)
    (fun t x => some (vk1H (ldA (mkLI P t)) x)) (fun _ _ _ => none) (fun _ => none) (fun _ => none) (fun x => some (vk1 nilV x)) (fun op t x y _ => some (vBin P D op t x y)) (fun op _ x => vNot op x) (fun s d x => some (vk1H (fun H a => convX P H s d a) x))
    (fun _ _ => none) (fun t x => vIfc P t x) (fun _ _ _ => none) (fun _ _ => none) (fun _ _ => none) (fun _ _ _ => none) (fun t x lo hi mx => vSl P t x lo hi mx) (fun t x f => vFa P t x f) (fun t x f => some (vk1 (fun a => fieldA P t a f) x))
    (fun t x ix => some (vk2 (ixV (mkXI P t)) x ix)) (fun t x ix => some (vk2 (fun a b => indexX P t a b) x ix)) (fun _ _ _ _ => none) (fun _ _ _ _ => none) (fun _ _ _ => none) (fun _ _ _ _ => none) (fun _ _ => none) (fun _ _ => none) (fun _ => none)
    (fun x _ t ok => some (vk1 (fun a => assertA P a t ok) x)) (fun x i => some (vk1 (fun a => extractA a i) x)) (fun c => vLen P c) (fun _ => none) (fun _ => none) (fun _ => none) (fun _ _ => none) (fun _ _ _ => none) (fun _ _ => none) op
theorem obO_some {f : Option AV → Option AV → Option AV} {l h : Option (Option AV)} {v : AV} (hv : obO f l h = some v) : ∃ x y, l = some x ∧ h = some y ∧ f x y = some v := by
  cases l with
  | none => cases hv
  | some x => cases h with
    | none => cases hv
    | some y => exact ⟨x, y, rfl, rfl, hv⟩
section
variable {P : Program} {D : Dec}
theorem mkV_ok {op : Op} {vk : VK} (h : mkV P D op = some vk) : VOK P D op vk := by
  cases op with
  | move x =>
    cases h
    intro E H v hv
    rw [vk0_f] at hv
    simp [opA, hv, val1]
  | assign x =>
    cases h
    intro E H v hv
    rw [vk0_f] at hv
    simp [opA, hv, val1]
  | pick c a b => cases h; exact vkPick_ok P D c a b
  | load t x =>
    cases h
    refine VOK.oneH fun E H a v h1 h2 => ?_
    simp only [opA, h1, ldA_ok h2]; rfl
  | nilCheck x =>
    cases h
    refine VOK.one fun E H a v h1 h2 => ?_
    cases a with
    | ptr k o => cases h2; simp [opA, h1]
    | _ => cases h2
  | binOp op t x y u =>
    have h : some (vBin P D op t x y) = some vk := h
    have e : vBin P D op t x y = vk2 (binZ (mkB op).f (binB P D op t y)) x y := rfl
    rw [e] at h
    cases h
    refine VOK.two fun E H a b v h1 h2 h3 => ?_
    rw [binZ_eq] at h3
    simp only [opA, h1, h2, h3]; rfl
  | unOp op t x =>
    have h : vNot op x = some vk := h
    cases op with
    | not =>
      cases h
      refine VOK.one fun E H a v h1 h2 => ?_
      cases a with
      | bool b =>
        have h2 : someN b = some v := h2
        have e : someN b = some (.bool (not b)) := by cases b <;> rfl
        rw [e] at h2; cases h2
        simp [opA, h1]
      | _ => cases h2
    | _ => cases h
  | convert s d x =>
    cases h
    refine VOK.oneH fun E H a v h1 h2 => ?_
    have h2 : convX P H s d a = some v := h2
    simp only [opA, h1, h2]; rfl
  | makeInterface t x =>
    have h : vIfc P t x = some vk := h
    unfold vIfc at h
    split at h
    · rename_i d hd
      split at h
      · cases h
      · rename_i hi
        cases h
        refine VOK.one fun E H a v h1 h2 => ?_
        cases h2
        simp only [opA, hd, hi, h1]
    · cases h
  | slice t x lo hi mx =>
    have h : vSl P t x lo hi mx = some vk := h
    cases mx with
    | some m => cases h
    | none =>
      cases h
      intro E H v hv
      have hv : ob1 (slF P t H ((mkGO lo).g E) ((mkGO hi).g E)) ((mkG x).g E) = some v := hv
      rw [mkG_eq, mkGO_eq, mkGO_eq] at hv
      obtain ⟨a, h1, h2⟩ := ob1_some hv
      obtain ⟨l, h, h3, h4, h5⟩ := obO_some h2
      simp only [opA, h1, h3, h4, h5]; rfl
  | fieldAddr t x f =>
    have h : vFa P t x f = some vk := h
    unfold vFa at h
    cases hf : fieldOff P t f with
    | none => rw [hf] at h; cases h
    | some off =>
      rw [hf] at h
      cases h
      refine VOK.one fun E H a v h1 h2 => ?_
      simp only [opA, h1, faV_ok hf h2]; rfl
  | field t x f =>
    cases h
    refine VOK.one fun E H a v h1 h2 => ?_
    have h2 : fieldA P t a f = some v := h2
    simp only [opA, h1, h2]; rfl
  | indexAddr t x ix =>
    cases h
    refine VOK.two fun E H a b v h1 h2 h3 => ?_
    simp only [opA, h1, h2, ixV_ok h3]; rfl
  | index t x ix =>
    cases h
    refine VOK.two fun E H a b v h1 h2 h3 => ?_
    have h3 : indexX P t a b = some v := h3
    simp only [opA, h1, h2, h3]; rfl
  | typeAssert x u t ok =>
    cases h
    refine VOK.one fun E H a v h1 h2 => ?_
    have h2 : assertA P a t ok = some v := h2
    simp only [opA, h1, h2]; rfl
  | extract x i =>
    cases h
    refine VOK.one fun E H a v h1 h2 => ?_
    have h2 : extractA a i = some v := h2
    simp only [opA, h1, h2]; rfl
  | call c =>
    have h : vLen P c = some vk := h
    unfold vLen at h
    split at h
    · rename_i b hc
      split at h
      · split at h
        · rename_i x ha
          split at h
          · rename_i t ht
            cases h
            refine VOK.one fun E H a v h1 h2 => ?_
            rw [lenK_eq] at h2
            simp only [opA, callA, ha, hc]
            have : evs E [x] = some [a] := by simp [evs, h1]
            simp only [this, ht, h2]; rfl
          · cases h
        · cases h
      · cases h
    · cases h
  | _ => cases h
end

/-! ### Stores -/
noncomputable def oneV (v : AV) : Bool :=
  AV.rec (motive_1 := fun _ => Bool) (motive_2 := fun _ => Bool) (fun _ => true) (fun _ _ => true) (fun _ _ => true) (fun _ => true) (fun _ => true) (fun _ _ => true) true (fun _ _ _ _ _ => true) true (fun _ => true) true
    (fun _ _ _ _ _ => true) (fun _ => true) true (fun _ _ _ => true) true (fun _ _ => false) (fun _ _ => false) (fun _ _ => true) (fun _ => true) (fun _ _ _ _ => true) true (fun _ _ => true) (fun _ => true) (fun _ => true) (fun _ _ => true) (fun _ _ _ _ _ => true) (fun _ => true) true (fun _ _ _ _ => true) v
theorem oneV_eq (v : AV) : oneV v = v.one := by cases v <;> rfl
noncomputable def stC (H : Heap) (k o : Nat) (v : AV) (c : Tr AV) (d : AV) (m : Nat) (e : TypeId) : Option Heap :=
  Bool.rec (motive := fun _ => Option Heap) none (some (H.set k (.cells (c.put o (some v)) d m e))) (Nat.ble (Nat.succ o) m)
noncomputable def stB (H : Heap) (k o : Nat) (v : AV) (b : AObj) : Option Heap :=
  AObj.rec (motive := fun _ => Option Heap) (stC H k o v) (fun _ => none) (fun _ _ _ _ _ _ _ _ _ => none) none (fun _ _ => none) b
noncomputable def stO (H : Heap) (k o : Nat) (v : AV) (b : Option AObj) : Option Heap := Option.rec (motive := fun _ => Option Heap) none (stB H k o v) b
noncomputable def stP (v : AV) (sl : Option Heap) (H : Heap) (k o : Nat) : Option Heap := Bool.rec (motive := fun _ => Option Heap) sl (stO H k o v (H.tr.get k)) (oneV v)
noncomputable def stA (sf : Heap → AV → AV → Option Heap) (H : Heap) (a v : AV) : Option Heap := V1.rec (motive := fun _ => Option Heap) (fun _ _ => none) (fun _ => none) (stP v (sf H a v) H) none none (view1 a)
noncomputable def szOne (P : Program) (t : TypeId) : Bool :=
  match infoT P t with
  | some i => Nat.beq 1 i.size
  | none => false
noncomputable def stK (P : Program) (t : TypeId) : Heap → AV → AV → Option Heap :=
  Bool.rec (motive := fun _ => Heap → AV → AV → Option Heap) (fun H a v => storeA P H t a v) (stA fun H a v => storeA P H t a v) (szOne P t)
theorem stK_ok {P : Program} {t : TypeId} {H H' : Heap} {a v : AV} (h : stK P t H a v = some H') : storeA P H t a v = some H' := by
  unfold stK at h
  cases hs : szOne P t with
  | false => rw [hs] at h; exact h
  | true =>
    rw [hs] at h
    cases a with
    | ptr k o =>
      have h : stP v (storeA P H t (.ptr k o) v) H k o = some H' := h
      unfold stP at h
      cases ho : oneV v with
      | false => rw [ho] at h; exact h
      | true =>
        rw [ho] at h
        have h : stO H k o v (H.tr.get k) = some H' := h
        rw [oneV_eq] at ho
        have hc : v.cells = [v] := by cases v <;> first | rfl | cases ho
        unfold szOne at hs
        unfold storeA
        dsimp only
        split at hs
        · rename_i i hi
          rw [hi]; dsimp only
          rw [hc]
          have : Nat.beq [v].length i.size = true := hs
          rw [this]; dsimp only
          unfold storeCellsA
          cases hk : H.tr.get k with
          | none => rw [hk] at h; cases h
          | some b =>
            rw [hk] at h
            cases b with
            | cells c d m e =>
              have h : Bool.rec (motive := fun _ => Option Heap) none (some (H.set k (.cells (c.put o (some v)) d m e))) (Nat.ble (Nat.succ o) m) = some H' := h
              dsimp only
              rw [ho]; dsimp only
              cases hb : Nat.ble (Nat.succ o) m with
              | false => rw [hb] at h; cases h
              | true => rw [hb] at h; exact h
            | _ => cases h
        · cases hs
    | _ => cases h
end Vx

/-! The machine made ready: rows, code, calls, returns. -/
namespace Vx
open Go Go.RowKit

inductive YR : Type where
  | next (s : FS)
  | fin (r : Option (FuncId × Fin' × Heap))
  | slow (x : FX) (E : Tr AV) (todo : List AItem) (H : Heap)
abbrev KF := FX → Tr AV → Heap → YR
structure KK : Type where
  f : KF
def YOK (P : Program) (D : Dec) (rg : Rg) (m : AM) : YR → Prop
  | .next s => AStar P D rg m (amFS s) ∧ norm (amFS s) = s
  | .fin r => r = none
  | .slow x E todo H => AStar P D rg m (amOf x E todo H)
theorem YOK.pre {P : Program} {D : Dec} {rg : Rg} {m m1 : AM} {r : YR} (h : AStar P D rg m m1) (k : YOK P D rg m1 r) : YOK P D rg m r := by
  cases r with
  | next s => exact ⟨h.trans k.1, k.2⟩
  | fin r => exact k
  | slow x E todo H => exact h.trans k
def KOK (P : Program) (D : Dec) (fn : FuncId) (nt : Nat) (todo : List AItem) (kk : KK) : Prop :=
  ∀ (rg : Rg) (x : FX) (E : Tr AV) (H : Heap), x.fn = fn → x.nt = nt → YOK P D rg (amOf x E todo H) (kk.f x E H)
theorem KOK.pre {P : Program} {D : Dec} {fn : FuncId} {nt : Nat} {todo k : List AItem} {kk : KK} (h : ∀ (rg : Rg) (x : FX) (E : Tr AV) (H : Heap), astep P D rg (amOf x E todo H) = .next (amOf x E k H)) (hk : KOK P D fn nt k kk) : KOK P D fn nt todo kk :=
  fun rg x E H h1 h2 => (hk rg x E H h1 h2).pre (.one (h rg x E H))

/-! ### Operations in rows -/
noncomputable def stopY (todo : List AItem) : KK := ⟨fun x E H => .slow x E todo H⟩
noncomputable def insV (stop ih : KK) (cw : CW) (vk : VK) : KK :=
  KK.rec (motive := fun _ => KK) (fun S => KK.rec (motive := fun _ => KK) (fun I => VK.rec (motive := fun _ => KK) (fun f => CW.rec (motive := fun _ => KK) ⟨fun x E H => Option.rec (motive := fun _ => YR) (S x E H) (fun _ => I x E H) (f E H)⟩
    (fun p => ⟨fun x E H => Option.rec (motive := fun _ => YR) (S x E H) (fun v => I x (p E v) H) (f E H)⟩) ⟨S⟩ cw) vk) ih) stop
/-- Operations that turn the heap alone. -/
structure HK : Type where
  f : Tr AV → Heap → Option Heap
noncomputable def obH (f : AV → AV → Option Heap) (a b : Option AV) : Option Heap := Option.rec (motive := fun _ => Option Heap) none (fun a => Option.rec (motive := fun _ => Option Heap) none (fun b => f a b) b) a
theorem obH_some {f : AV → AV → Option Heap} {a b : Option AV} {H : Heap} (h : obH f a b = some H) : ∃ x y, a = some x ∧ b = some y ∧ f x y = some H := by
  cases a with
  | none => cases h
  | some x => cases b with
    | none => cases h
    | some y => exact ⟨x, y, rfl, rfl, h⟩
noncomputable def hkSt (f : Heap → AV → AV → Option Heap) (x y : Operand) : HK := GK.rec (motive := fun _ => HK) (fun g => GK.rec (motive := fun _ => HK) (fun h => ⟨fun E H => obH (f H) (g E) (h E)⟩) (mkG y)) (mkG x)
noncomputable def insH (stop ih : KK) (cw : CW) (hk : HK) : KK :=
  KK.rec (motive := fun _ => KK) (fun S => KK.rec (motive := fun _ => KK) (fun I => HK.rec (motive := fun _ => KK) (fun f => CW.rec (motive := fun _ => KK) ⟨fun x E H => Option.rec (motive := fun _ => YR) (S x E H) (fun H' => I x E H') (f E H)⟩
    (fun p => ⟨fun x E H => Option.rec (motive := fun _ => YR) (S x E H) (fun H' => I x (p E (.tup [])) H') (f E H)⟩) ⟨S⟩ cw) hk) ih) stop
/-- Any operation. -/
noncomputable def insG (P : Program) (D : Dec) (stop ih : KK) (cw : CW) (op : Op) : KK :=
  KK.rec (motive := fun _ => KK) (fun S => KK.rec (motive := fun _ => KK) (fun I => CW.rec (motive := fun _ => KK)
    ⟨fun x E H => OpR.rec (motive := fun _ => YR) (fun _ H' => I x E H') (fun _ _ => S x E H) (fun _ _ => S x E H) (fun _ => S x E H) (S x E H) (fun _ => S x E H) (S x E H) (opF op P D E H)⟩
    (fun p => ⟨fun x E H => OpR.rec (motive := fun _ => YR) (fun v H' => I x (p E v) H') (fun _ _ => S x E H) (fun _ _ => S x E H) (fun _ => S x E H) (S x E H) (fun _ => S x E H) (S x E H) (opF op P D E H)⟩) ⟨S⟩ cw) ih) stop
/-! ### Calls -/
structure CC : Type where
  g : FuncId
  nt : Nat
  body : Code
  args : List Operand
noncomputable def mkCall (P : Program) (c : Call) : Option CC :=
  match c.callee with
  | .value f => match f with
    | .func g => match bodied P g with
      | true => match fnT P g with
        | some F => match F.body with
          | some b => match Nat.ble c.args.toList.length F.ntmps with
            | true => some ⟨g, F.ntmps, b, c.args.toList⟩
            | false => none
          | none => none
        | none => none
      | false => none
    | _ => none
  | _ => none
structure AK : Type where
  g : Tr AV → Option (List AV)
noncomputable def consO (a : Option AV) (r : Option (List AV)) : Option (List AV) := Option.rec (motive := fun _ => Option (List AV)) none (fun a => Option.rec (motive := fun _ => Option (List AV)) none (fun r => some (a :: r)) r) a
noncomputable def mkArgs (l : List Operand) : AK :=
  List.rec (motive := fun _ => AK) ⟨fun _ => some []⟩ (fun o _ ih => AK.rec (motive := fun _ => AK) (fun fr => GK.rec (motive := fun _ => AK) (fun g => ⟨fun E => consO (g E) (fr E)⟩) (mkG o)) ih) l
theorem mkArgs_eq (E : Tr AV) : ∀ (l : List Operand), (mkArgs l).g E = evs E l
  | [] => rfl
  | o :: r => by
    show consO ((mkG o).g E) ((mkArgs r).g E) = _
    rw [mkG_eq, mkArgs_eq E r]
    simp only [evs]
    cases ev E o with
    | none => rfl
    | some a => cases evs E r <;> rfl
noncomputable def pushY (todo : List AItem) (g : FuncId) (nt : Nat) (b : List AItem) (E : Tr AV) (H : Heap) (l : List AV) (x : FX) : YR :=
  FX.rec (motive := fun _ => YR) (fun xfn xdf xro xnt xdfs xcs => .next (.fast ⟨g, false, none, nt, [], ⟨xfn, xdf, xro, xnt, E, todo, xdfs, .run⟩ :: xcs⟩ (ofList l 0 .e) b H)) x
noncomputable def hpY (D : Dec) (S : KF) (todo : List AItem) (g : FuncId) (nt : Nat) (b : List AItem) (x : FX) (E : Tr AV) (H : Heap) (l : List AV) : YR :=
  Option.rec (motive := fun _ => YR) (pushY todo g nt b E H l x) (fun _ => S x E H) (D.hp g l H)
noncomputable def goY (D : Dec) (S : KF) (todo : List AItem) (g : FuncId) (nt : Nat) (b : List AItem) (x : FX) (E : Tr AV) (H : Heap) (l : List AV) : YR :=
  Option.rec (motive := fun _ => YR) (hpY D S todo g nt b x E H l) (fun _ => S x E H) (D.plug g l)
noncomputable def insC (D : Dec) (stop : KK) (todo : List AItem) (cc : CC) : KK :=
  CC.rec (motive := fun _ => KK) (fun g nt b args => AK.rec (motive := fun _ => KK) (fun ar => KK.rec (motive := fun _ => KK) (fun S => ⟨fun x E H => Option.rec (motive := fun _ => YR) (S x E H) (goY D S todo g nt [.code b] x E H) (ar E)⟩) stop) (mkArgs args)) cc
/-! ### Operations that make a block -/
structure MQ : Type where
  f : Tr AV → Option Mk
noncomputable def boxO (t : TypeId) (a : Option AV) : Option Mk := Option.rec (motive := fun _ => Option Mk) none (fun v => some (newM t v)) a
noncomputable def mqBox (t : TypeId) (x : Operand) : MQ := GK.rec (motive := fun _ => MQ) (fun g => ⟨fun E => boxO t (g E)⟩) (mkG x)
noncomputable def mqAlloc (m : Option Mk) : MQ := ⟨fun _ => m⟩
noncomputable def mqGen (P : Program) (op : Op) : MQ := ⟨fun E => opMk P E op⟩
noncomputable def mk0 (I : KF) (x : FX) (E : Tr AV) (H : Heap) (m : Mk) : YR :=
  Prod.rec (motive := fun _ => YR) (fun ob _ => Heap.rec (motive := fun _ => YR) (fun tr nx => forceNat nx fun kk => I x E ⟨tr.put kk (some ob), Nat.succ kk⟩) H) m
noncomputable def mk1 (p : Tr AV → AV → Tr AV) (I : KF) (x : FX) (E : Tr AV) (H : Heap) (m : Mk) : YR :=
  Prod.rec (motive := fun _ => YR) (fun ob fk => Heap.rec (motive := fun _ => YR) (fun tr nx => forceNat nx fun kk => I x (p E (fk kk)) ⟨tr.put kk (some ob), Nat.succ kk⟩) H) m
noncomputable def insM (stop ih : KK) (cw : CW) (mq : MQ) : KK :=
  KK.rec (motive := fun _ => KK) (fun S => KK.rec (motive := fun _ => KK) (fun I => MQ.rec (motive := fun _ => KK) (fun f => CW.rec (motive := fun _ => KK) ⟨fun x E H => Option.rec (motive := fun _ => YR) (S x E H) (mk0 I x E H) (f E)⟩
    (fun p => ⟨fun x E H => Option.rec (motive := fun _ => YR) (S x E H) (mk1 p I x E H) (f E)⟩) ⟨S⟩ cw) mq) ih) stop
noncomputable def insO (P : Program) (D : Dec) (stop ih : KK) (todo : List AItem) (cw : CW) (op : Op) : KK :=
  Op.rec (motive := fun _ => KK) (fun _ => insG P D stop ih cw op) (fun _ => insG P D stop ih cw op) (fun _ _ _ => insG P D stop ih cw op) 
    (fun t => insM stop ih cw (mqAlloc (opMk P .e (.alloc t)))) (fun t x => insM stop ih cw (mqBox t x)) (fun _ _ => insG P D stop ih cw op) (fun _ _ _ => insM stop ih cw (mqGen P op)) (fun _ _ _ _ => insG P D stop ih cw op) (fun _ _ => insG P D stop ih cw op) 
    (fun t a v => insH stop ih cw (hkSt (stK P t) a v)) (fun _ => insG P D stop ih cw op) (fun _ => insG P D stop ih cw op) (fun _ => insG P D stop ih cw op) (fun _ _ _ _ _ => insG P D stop ih cw op) (fun _ _ _ => insG P D stop ih cw op) 
    (fun _ _ _ => insG P D stop ih cw op) (fun _ _ => insG P D stop ih cw op) (fun _ _ => insG P D stop ih cw op) (fun _ _ _ => insG P D stop ih cw op) (fun _ _ => insM stop ih cw (mqGen P op)) (fun _ _ => insG P D stop ih cw op) 
    (fun _ _ _ => insM stop ih cw (mqGen P op)) (fun _ _ _ _ _ => insG P D stop ih cw op) (fun _ _ _ => insG P D stop ih cw op) (fun _ _ _ => insG P D stop ih cw op) (fun _ _ _ => insG P D stop ih cw op) (fun _ _ _ => insG P D stop ih cw op) 
    (fun _ _ _ _ => insG P D stop ih cw op) (fun _ _ _ _ => insG P D stop ih cw op) (fun _ _ _ => insG P D stop ih cw op) (fun _ _ _ _ => insG P D stop ih cw op) (fun _ _ => insG P D stop ih cw op) (fun _ _ => insG P D stop ih cw op) 
    (fun _ => insG P D stop ih cw op) (fun _ _ _ _ => insG P D stop ih cw op) (fun _ _ => insG P D stop ih cw op) (fun c => Option.rec (motive := fun _ => KK) (insG P D stop ih cw op) (insC D stop todo) (mkCall P c)) (fun _ => insG P D stop ih cw op) 
    (fun _ => insG P D stop ih cw op) (fun _ => insG P D stop ih cw op) (fun _ _ => insG P D stop ih cw op) (fun _ _ _ => insG P D stop ih cw op) (fun _ _ => insG P D stop ih cw op) op
noncomputable def insY (P : Program) (D : Dec) (stop ih : KK) (todo : List AItem) (cw : CW) (op : Op) : KK :=
  Option.rec (motive := fun _ => KK) (insO P D stop ih todo cw op) (insV stop ih cw) (mkV P D op)
noncomputable def skipY (stop ih : KK) (cw : CW) : KK := CW.rec (motive := fun _ => KK) ih (fun p => KK.rec (motive := fun _ => KK) (fun I => ⟨fun x E H => I x (p E (.tup [])) H⟩) ih) stop cw
noncomputable def onY (stop skip ins : KK) (g : Tr AV → Option AV) (want : Bool) : KK :=
  KK.rec (motive := fun _ => KK) (fun S => KK.rec (motive := fun _ => KK) (fun I0 => KK.rec (motive := fun _ => KK) (fun I1 => ⟨fun x E H => Option.rec (motive := fun _ => YR) (S x E H) (fun b => Bool.rec (motive := fun _ => YR) (I0 x E H) (I1 x E H) b) (guard3 want (g E))⟩) ins) skip) stop
noncomputable def gdY (stop skip ins : KK) (cg : CG) : KK := CG.rec (motive := fun _ => KK) ins (onY stop skip ins) stop cg
noncomputable def consY (P : Program) (D : Dec) (stop ih : KK) (todo : List AItem) (cw : CW) (cg : CG) (op : Op) : KK := gdY stop (skipY stop ih cw) (insY P D stop ih todo cw op) cg
noncomputable def afterY (kk : KK) : KK := ⟨fun x E H => kk.f x E H⟩
noncomputable def rowY (P : Program) (D : Dec) (nt : Nat) (all : Array Oper) (k : List AItem) (ihk : KK) (l : List Oper) : KK :=
  List.rec (motive := fun _ => KK) (afterY ihk) (fun o r ih => consY P D (stopY (.inOps all (o :: r) :: k)) ih (.inOps all (o :: r) :: k) (mkCW nt o.dst) (mkCG all.toList o.guard) o.op) l

section
variable {P : Program} {D : Dec} {rg : Rg} {fn : FuncId} {nt : Nat} {all : Array Oper} {k : List AItem} {o : Oper} {rest : List Oper} {x : FX} {E E' : Tr AV} {H H' : Heap}
theorem op_val (hw : wantedA all E o = some true) {v : AV} (ho : opA P D E H o.op = .val v H') (hp : putA x.nt E o.dst v = some E') :
    AStar P D rg (amOf x E (.inOps all (o :: rest) :: k) H) (amOf x E' (.inOps all rest :: k) H') := .one (by
  have hst : astep P D rg (amOf x E (.inOps all (o :: rest) :: k) H) = opStep P D x.fn x.df x.ro x.nt E all o rest k x.dfs x.cs H := rfl
  rw [hst]
  unfold opStep
  simp only [hw, ho, hp]
  rfl)
theorem op_skip (hw : wantedA all E o = some false) (hp : putA x.nt E o.dst (.tup []) = some E') :
    AStar P D rg (amOf x E (.inOps all (o :: rest) :: k) H) (amOf x E' (.inOps all rest :: k) H) := .one (by
  have hst : astep P D rg (amOf x E (.inOps all (o :: rest) :: k) H) = opStep P D x.fn x.df x.ro x.nt E all o rest k x.dfs x.cs H := rfl
  rw [hst]
  unfold opStep
  simp only [hw, hp]
  rfl)
theorem cw_no {dst : Option Tmp} (h : mkCW nt dst = .no) (E : Tr AV) (v : AV) : putA nt E dst v = some E := by
  unfold mkCW at h
  unfold putA
  cases dst with
  | none => rfl
  | some d =>
    exfalso
    dsimp only at h
    cases hb : Nat.ble (Nat.succ d) nt with
    | false => rw [hb] at h; cases h
    | true => rw [hb] at h; cases h
theorem cw_put {dst : Option Tmp} {p : Tr AV → AV → Tr AV} (h : mkCW nt dst = .put p) (E : Tr AV) (v : AV) : putA nt E dst v = some (p E v) := by
  unfold mkCW at h
  unfold putA
  cases dst with
  | none => cases h
  | some d =>
    dsimp only at h ⊢
    cases hb : Nat.ble (Nat.succ d) nt with
    | false => rw [hb] at h; cases h
    | true =>
      rw [hb] at h
      have h : CW.put (mkPt d).p = .put p := h
      cases h
      dsimp only
      rw [mkPt_eq]
theorem stopY_ok : KOK P D fn nt (.inOps all (o :: rest) :: k) (stopY (.inOps all (o :: rest) :: k)) := fun _ _ _ _ _ _ => AStar.refl
/-- What the continuation behind an operation comes to, where the operation is done. -/
def OnOK (P : Program) (D : Dec) (fn : FuncId) (nt : Nat) (all : Array Oper) (k : List AItem) (o : Oper) (rest : List Oper) (ins : KK) : Prop :=
  ∀ (rg : Rg) (x : FX) (E : Tr AV) (H : Heap), x.fn = fn → x.nt = nt → wantedA all E o = some true → YOK P D rg (amOf x E (.inOps all (o :: rest) :: k) H) (ins.f x E H)
theorem stop_on : OnOK P D fn nt all k o rest (stopY (.inOps all (o :: rest) :: k)) := fun _ _ _ _ _ _ _ => AStar.refl
theorem insV_ok {ih : KK} (hih : KOK P D fn nt (.inOps all rest :: k) ih) {vk : VK} (hv : VOK P D o.op vk) : OnOK P D fn nt all k o rest (insV (stopY (.inOps all (o :: rest) :: k)) ih (mkCW nt o.dst) vk) := by
  intro rg x E H h1 h2 hw
  obtain ⟨I⟩ := ih
  obtain ⟨f⟩ := vk
  unfold insV
  cases hc : mkCW nt o.dst with
  | no =>
    show YOK P D rg _ (Option.rec (motive := fun _ => YR) (.slow x E (.inOps all (o :: rest) :: k) H) (fun _ => I x E H) (f E H))
    cases hf : f E H with
    | none => exact AStar.refl
    | some v => exact (hih rg x E H h1 h2).pre (op_val hw (hv E H v hf) (by rw [h2]; exact cw_no hc E v))
  | put p =>
    show YOK P D rg _ (Option.rec (motive := fun _ => YR) (.slow x E (.inOps all (o :: rest) :: k) H) (fun v => I x (p E v) H) (f E H))
    cases hf : f E H with
    | none => exact AStar.refl
    | some v => exact (hih rg x (p E v) H h1 h2).pre (op_val hw (hv E H v hf) (by rw [h2]; exact cw_put hc E v))
  | bad => exact AStar.refl
theorem insH_ok {ih : KK} (hih : KOK P D fn nt (.inOps all rest :: k) ih) {hk : HK} (hv : ∀ E H H', hk.f E H = some H' → opA P D E H o.op = .val (.tup []) H') : OnOK P D fn nt all k o rest (insH (stopY (.inOps all (o :: rest) :: k)) ih (mkCW nt o.dst) hk) := by
  intro rg x E H h1 h2 hw
  obtain ⟨I⟩ := ih
  obtain ⟨f⟩ := hk
  unfold insH
  cases hc : mkCW nt o.dst with
  | no =>
    show YOK P D rg _ (Option.rec (motive := fun _ => YR) (.slow x E (.inOps all (o :: rest) :: k) H) (fun H' => I x E H') (f E H))
    cases hf : f E H with
    | none => exact AStar.refl
    | some H1 => exact (hih rg x E H1 h1 h2).pre (op_val hw (hv E H H1 hf) (by rw [h2]; exact cw_no hc E _))
  | put p =>
    show YOK P D rg _ (Option.rec (motive := fun _ => YR) (.slow x E (.inOps all (o :: rest) :: k) H) (fun H' => I x (p E (.tup [])) H') (f E H))
    cases hf : f E H with
    | none => exact AStar.refl
    | some H1 => exact (hih rg x _ H1 h1 h2).pre (op_val hw (hv E H H1 hf) (by rw [h2]; exact cw_put hc E _))
  | bad => exact AStar.refl
theorem insG_ok {ih : KK} (hih : KOK P D fn nt (.inOps all rest :: k) ih) : OnOK P D fn nt all k o rest (insG P D (stopY (.inOps all (o :: rest) :: k)) ih (mkCW nt o.dst) o.op) := by
  intro rg x E H h1 h2 hw
  obtain ⟨I⟩ := ih
  unfold insG
  cases hc : mkCW nt o.dst with
  | no =>
    show YOK P D rg _ (OpR.rec (motive := fun _ => YR) (fun _ H' => I x E H') (fun _ _ => .slow x E (.inOps all (o :: rest) :: k) H) (fun _ _ => .slow x E (.inOps all (o :: rest) :: k) H) (fun _ => .slow x E (.inOps all (o :: rest) :: k) H) (.slow x E (.inOps all (o :: rest) :: k) H) (fun _ => .slow x E (.inOps all (o :: rest) :: k) H) (.slow x E (.inOps all (o :: rest) :: k) H) (opF o.op P D E H))
    rw [opF_eq]
    cases ho : opA P D E H o.op with
    | val v H1 => exact (hih rg x E H1 h1 h2).pre (op_val hw ho (by rw [h2]; exact cw_no hc E v))
    | _ => exact AStar.refl
  | put p =>
    show YOK P D rg _ (OpR.rec (motive := fun _ => YR) (fun v H' => I x (p E v) H') (fun _ _ => .slow x E (.inOps all (o :: rest) :: k) H) (fun _ _ => .slow x E (.inOps all (o :: rest) :: k) H) (fun _ => .slow x E (.inOps all (o :: rest) :: k) H) (.slow x E (.inOps all (o :: rest) :: k) H) (fun _ => .slow x E (.inOps all (o :: rest) :: k) H) (.slow x E (.inOps all (o :: rest) :: k) H) (opF o.op P D E H))
    rw [opF_eq]
    cases ho : opA P D E H o.op with
    | val v H1 => exact (hih rg x _ H1 h1 h2).pre (op_val hw ho (by rw [h2]; exact cw_put hc E v))
    | _ => exact AStar.refl
  | bad => exact AStar.refl
theorem insM_ok {ih : KK} (hih : KOK P D fn nt (.inOps all rest :: k) ih) {mq : MQ} (hv : ∀ E H m, mq.f E = some m → opA P D E H o.op = .val (m.2 H.next) (H.add m.1)) : OnOK P D fn nt all k o rest (insM (stopY (.inOps all (o :: rest) :: k)) ih (mkCW nt o.dst) mq) := by
  intro rg x E H h1 h2 hw
  obtain ⟨I⟩ := ih
  obtain ⟨f⟩ := mq
  unfold insM
  cases hc : mkCW nt o.dst with
  | no =>
    show YOK P D rg _ (Option.rec (motive := fun _ => YR) (.slow x E (.inOps all (o :: rest) :: k) H) (mk0 I x E H) (f E))
    cases hf : f E with
    | none => exact AStar.refl
    | some m =>
      have ho := hv E H m hf
      obtain ⟨ob, fk⟩ := m
      obtain ⟨tr, nx⟩ := H
      show YOK P D rg _ (forceNat nx fun kk => I x E ⟨tr.put kk (some ob), Nat.succ kk⟩)
      rw [forceNat_eq]
      exact (hih rg x E ⟨tr.put nx (some ob), Nat.succ nx⟩ h1 h2).pre (op_val hw ho (by rw [h2]; exact cw_no hc E _))
  | put p =>
    show YOK P D rg _ (Option.rec (motive := fun _ => YR) (.slow x E (.inOps all (o :: rest) :: k) H) (mk1 p I x E H) (f E))
    cases hf : f E with
    | none => exact AStar.refl
    | some m =>
      have ho := hv E H m hf
      obtain ⟨ob, fk⟩ := m
      obtain ⟨tr, nx⟩ := H
      show YOK P D rg _ (forceNat nx fun kk => I x (p E (fk kk)) ⟨tr.put kk (some ob), Nat.succ kk⟩)
      rw [forceNat_eq]
      exact (hih rg x (p E (fk nx)) ⟨tr.put nx (some ob), Nat.succ nx⟩ h1 h2).pre (op_val hw ho (by rw [h2]; exact cw_put hc E _))
  | bad => exact AStar.refl
theorem evs_length {E : Tr AV} : ∀ {l : List Operand} {r : List AV}, evs E l = some r → r.length = l.length
  | [], r, h => by simp [evs] at h; subst h; rfl
  | o :: l, r, h => by
    simp only [evs] at h
    cases ho : ev E o with
    | none => simp [ho] at h
    | some a =>
      cases hl : evs E l with
      | none => simp [ho, hl] at h
      | some q =>
        simp only [ho, hl, Option.some.injEq] at h
        subst h
        simp [evs_length hl]
theorem insC_ok {c : Call} (hop : o.op = .call c) {cc : CC} (hc : mkCall P c = some cc) : OnOK P D fn nt all k o rest (insC D (stopY (.inOps all (o :: rest) :: k)) (.inOps all (o :: rest) :: k) cc) := by
  intro rg x E H h1 h2 hw
  unfold mkCall at hc
  split at hc
  · rename_i f hf
    split at hc
    · rename_i g
      split at hc
      · rename_i hb
        split at hc
        · rename_i F hF
          split at hc
          · rename_i b hbd
            split at hc
            · rename_i hle
              cases hc
              show YOK P D rg _ (Option.rec (motive := fun _ => YR) (.slow x E (.inOps all (o :: rest) :: k) H) (goY D _ (.inOps all (o :: rest) :: k) g F.ntmps [.code b] x E H) ((mkArgs c.args.toList).g E))
              rw [mkArgs_eq]
              cases he : evs E c.args.toList with
              | none => exact AStar.refl
              | some l =>
                show YOK P D rg _ (Option.rec (motive := fun _ => YR) (hpY D _ (.inOps all (o :: rest) :: k) g F.ntmps [.code b] x E H l) (fun _ => .slow x E (.inOps all (o :: rest) :: k) H) (D.plug g l))
                cases hp : D.plug g l with
                | some v => exact AStar.refl
                | none =>
                  show YOK P D rg _ (Option.rec (motive := fun _ => YR) (pushY (.inOps all (o :: rest) :: k) g F.ntmps [.code b] E H l x) (fun _ => .slow x E (.inOps all (o :: rest) :: k) H) (D.hp g l H))
                  cases hq : D.hp g l H with
                  | some v => exact AStar.refl
                  | none =>
                    have hpl : plugA D g l = none := by unfold plugA; rw [hp]
                    have hoA : opA P D E H o.op = .call g l := by
                      rw [hop]
                      simp only [opA, callA, he, hf, ev, hb, List.nil_append, List.append_nil]
                    have hen : enterA P g l false = some ⟨g, false, none, F.ntmps, ofList l 0 .e, [.code b], [], .run⟩ := by
                      unfold enterA
                      rw [hF]; dsimp only
                      rw [hbd]; dsimp only
                      have : l.length = c.args.toList.length := evs_length he
                      rw [this, hle]
                    obtain ⟨xfn, xdf, xro, xnt, xdfs, xcs⟩ := x
                    refine ⟨.one ?_, rfl⟩
                    show opStep P D xfn xdf xro xnt E all o rest k xdfs xcs H = _
                    unfold opStep
                    simp only [hw, hoA, hpl, hq, hen]
                    rfl
            · cases hc
          · cases hc
        · cases hc
      · cases hc
    · cases hc
  · cases hc
theorem insO_ok {ih : KK} (hih : KOK P D fn nt (.inOps all rest :: k) ih) : OnOK P D fn nt all k o rest (insO P D (stopY (.inOps all (o :: rest) :: k)) ih (.inOps all (o :: rest) :: k) (mkCW nt o.dst) o.op) := by
  have hG := insG_ok (o := o) hih
  generalize hop : o.op = op at hG ⊢
  cases op with
  | store t a v =>
    refine insH_ok hih fun E H H' h => ?_
    have h : obH (stK P t H) ((mkG a).g E) ((mkG v).g E) = some H' := h
    rw [mkG_eq, mkG_eq] at h
    obtain ⟨u, w, h1, h2, h3⟩ := obH_some h
    rw [hop]
    simp only [opA, h1, h2, stK_ok h3]
  | alloc t =>
    refine insM_ok hih fun E H m h => ?_
    have h : opMk P .e (.alloc t) = some m := h
    have e : opMk P E (.alloc t) = some m := h
    rw [hop]; simp only [opA, e]; rfl
  | box t a =>
    refine insM_ok hih fun E H m h => ?_
    have h : boxO t ((mkG a).g E) = some m := h
    rw [mkG_eq] at h
    have e : opMk P E (.box t a) = some m := by
      unfold boxO at h
      simp only [opMk]
      cases ha : ev E a with
      | none => rw [ha] at h; cases h
      | some v => rw [ha] at h; exact h
    rw [hop]; simp only [opA, e]; rfl
  | buildSlice t n ps =>
    refine insM_ok hih fun E H m h => ?_
    have h : opMk P E (.buildSlice t n ps) = some m := h
    rw [hop]; simp only [opA, h]; rfl
  | makeSlice t l c =>
    refine insM_ok hih fun E H m h => ?_
    have h : opMk P E (.makeSlice t l c) = some m := h
    rw [hop]; simp only [opA, h]; rfl
  | makeMap t r =>
    refine insM_ok hih fun E H m h => ?_
    have h : opMk P E (.makeMap t r) = some m := h
    rw [hop]; simp only [opA, h]; rfl
  | call c =>
    show OnOK P D fn nt all k o rest (Option.rec (motive := fun _ => KK) _ (insC D _ _) (mkCall P c))
    cases hc : mkCall P c with
    | none => exact hG
    | some cc => exact insC_ok hop hc
  | _ => exact hG
theorem insY_ok {ih : KK} (hih : KOK P D fn nt (.inOps all rest :: k) ih) : OnOK P D fn nt all k o rest (insY P D (stopY (.inOps all (o :: rest) :: k)) ih (.inOps all (o :: rest) :: k) (mkCW nt o.dst) o.op) := by
  unfold insY
  cases hv : mkV P D o.op with
  | none => exact insO_ok hih
  | some vk => exact insV_ok hih (mkV_ok hv)
theorem skipY_ok {ih : KK} (hih : KOK P D fn nt (.inOps all rest :: k) ih) (rg : Rg) (x : FX) (E : Tr AV) (H : Heap) (h1 : x.fn = fn) (h2 : x.nt = nt) (hw : wantedA all E o = some false) :
    YOK P D rg (amOf x E (.inOps all (o :: rest) :: k) H) ((skipY (stopY (.inOps all (o :: rest) :: k)) ih (mkCW nt o.dst)).f x E H) := by
  unfold skipY
  cases hc : mkCW nt o.dst with
  | no => exact (hih rg x E H h1 h2).pre (op_skip hw (by rw [h2]; exact cw_no hc E _))
  | put p =>
    obtain ⟨I⟩ := ih
    exact (hih rg x (p E (.tup [])) H h1 h2).pre (op_skip hw (by rw [h2]; exact cw_put hc E _))
  | bad => exact AStar.refl
theorem consY_ok {ih : KK} (hih : KOK P D fn nt (.inOps all rest :: k) ih) : KOK P D fn nt (.inOps all (o :: rest) :: k) (consY P D (stopY (.inOps all (o :: rest) :: k)) ih (.inOps all (o :: rest) :: k) (mkCW nt o.dst) (mkCG all.toList o.guard) o.op) := by
  intro rg x E H h1 h2
  have hi := insY_ok (o := o) hih rg x E H h1 h2
  have hs := skipY_ok (o := o) hih rg x E H h1 h2
  have hg := guardF_eq all E o
  unfold guardF at hg
  unfold consY mkCG
  cases hgd : o.guard with
  | none =>
    rw [hgd] at hg
    exact hi hg.symm
  | some p =>
    obtain ⟨j, want⟩ := p
    rw [hgd] at hg
    have hg : guard2 want E (nth all.toList j) = wantedA all E o := hg
    dsimp only
    cases hn : nth all.toList j with
    | none => exact AStar.refl
    | some oj =>
      rw [hn] at hg
      have hg : Option.rec (motive := fun _ => Option Bool) none (fun d => guard3 want (E.get d)) oj.dst = wantedA all E o := hg
      dsimp only
      cases hd : oj.dst with
      | none => exact AStar.refl
      | some d =>
        rw [hd] at hg
        have hg : guard3 want (E.get d) = wantedA all E o := hg
        rw [← mkGt_eq] at hg
        show YOK P D rg _ ((onY (stopY (.inOps all (o :: rest) :: k)) (skipY (stopY (.inOps all (o :: rest) :: k)) ih (mkCW nt o.dst)) (insY P D (stopY (.inOps all (o :: rest) :: k)) ih (.inOps all (o :: rest) :: k) (mkCW nt o.dst) o.op) (mkGt d).g want).f x E H)
        generalize skipY (stopY (.inOps all (o :: rest) :: k)) ih (mkCW nt o.dst) = sk at hs ⊢
        generalize insY P D (stopY (.inOps all (o :: rest) :: k)) ih (.inOps all (o :: rest) :: k) (mkCW nt o.dst) o.op = ins at hi ⊢
        obtain ⟨I0⟩ := sk
        obtain ⟨I1⟩ := ins
        show YOK P D rg _ (Option.rec (motive := fun _ => YR) (.slow x E (.inOps all (o :: rest) :: k) H) (fun b => Bool.rec (motive := fun _ => YR) (I0 x E H) (I1 x E H) b) (guard3 want ((mkGt d).g E)))
        cases hw : guard3 want ((mkGt d).g E) with
        | none => exact AStar.refl
        | some b =>
          rw [hw] at hg
          cases b with
          | true => exact hi hg.symm
          | false => exact hs hg.symm
theorem rowY_ok {ihk : KK} (hk : KOK P D fn nt k ihk) : ∀ (l : List Oper), KOK P D fn nt (.inOps all l :: k) (rowY P D nt all k ihk l)
  | [] => KOK.pre (fun _ _ _ _ => rfl) (kk := afterY ihk) hk
  | _ :: rest => consY_ok (rowY_ok hk rest)
end

/-! ### Returns -/
noncomputable def yOf (r : FR') : YR := FR'.rec (motive := fun _ => YR) .next .fin r
noncomputable def mkRes (P : Program) (fn : FuncId) : VK :=
  match fnT P fn with
  | some F => match F.results.toList with
    | [] => ⟨fun _ _ => some (.tup [])⟩
    | [r] => match r with
      | .tmp t => vk0 (.tmp t)
      | _ => ⟨fun E H => resultA P fn E H⟩
    | _ => ⟨fun E H => resultA P fn E H⟩
  | none => ⟨fun _ _ => none⟩
theorem mkRes_ok {P : Program} {fn : FuncId} {E : Tr AV} {H : Heap} {v : AV} (h : (mkRes P fn).f E H = some v) : resultA P fn E H = some v := by
  unfold mkRes at h
  unfold resultA
  cases hF : fnT P fn with
  | none => rw [hF] at h; cases h
  | some F =>
    rw [hF] at h
    dsimp only at h ⊢
    have gen : ∀ {l}, F.results.toList = l → resultA P fn E H = some v → (match resA P E H l with
      | some l => match l with
        | [v] => some v
        | l => some (.tup l)
      | none => none) = some v := fun hl hr => by
      subst hl
      unfold resultA at hr
      rw [hF] at hr
      exact hr
    cases hl : F.results.toList with
    | nil => rw [hl] at h; dsimp only at h; simp only [resA]; exact h
    | cons r rs =>
      cases rs with
      | nil =>
        rw [hl] at h
        cases r with
        | tmp t =>
          have h : (vk0 (.tmp t)).f E H = some v := h
          rw [vk0_f] at h
          have h : E.get t = some v := h
          simp only [resA, h]
        | _ => exact gen hl h
      | cons r2 rs => rw [hl] at h; exact gen hl h
noncomputable def retFin (cs' : List AF) (H : Heap) (c : AF) (v : Option AV) : YR := Option.rec (motive := fun _ => YR) (.fin none) (fun v => yOf (finQ c v cs' H)) v
noncomputable def retCs (rf : Tr AV → Heap → Option AV) (sl : YR) (E : Tr AV) (H : Heap) (cs : List AF) : YR := List.rec (motive := fun _ => YR) sl (fun c cs' _ => retFin cs' H c (rf E H)) cs
noncomputable def retGo (rf : Tr AV → Heap → Option AV) (sl : YR) (E : Tr AV) (H : Heap) (cs : List AF) (ro : Option Nat) (dfs : List ADef) (df : Bool) : YR :=
  Option.rec (motive := fun _ => YR) (List.rec (motive := fun _ => YR) (Bool.rec (motive := fun _ => YR) (retCs rf sl E H cs) sl df) (fun _ _ _ => sl) dfs) (fun _ => sl) ro
noncomputable def retK (k : List AItem) (vk : VK) : KK :=
  VK.rec (motive := fun _ => KK) (fun rf => ⟨fun x E H => FX.rec (motive := fun _ => YR) (fun _ df ro _ dfs cs => retGo rf (.slow x E (.code .ret :: k) H) E H cs ro dfs df) x⟩) vk
theorem retK_ok (P : Program) (D : Dec) (fn : FuncId) (nt : Nat) (k : List AItem) : KOK P D fn nt (.code .ret :: k) (retK k (mkRes P fn)) := by
  intro rg x E H h1 h2
  have hres := fun v => mkRes_ok (P := P) (fn := fn) (E := E) (H := H) (v := v)
  generalize mkRes P fn = vk at hres ⊢
  obtain ⟨rf⟩ := vk
  obtain ⟨xfn, df, ro, xnt, dfs, cs⟩ := x
  have h1 : xfn = fn := h1
  subst h1
  show YOK P D rg _ (retGo rf (.slow ⟨xfn, df, ro, xnt, dfs, cs⟩ E (.code .ret :: k) H) E H cs ro dfs df)
  cases ro with
  | some l => exact AStar.refl
  | none =>
    cases dfs with
    | cons d ds => exact AStar.refl
    | nil =>
      cases df with
      | true => exact AStar.refl
      | false =>
        cases cs with
        | nil => exact AStar.refl
        | cons c cs' =>
          show YOK P D rg _ (retFin cs' H c (rf E H))
          cases hv : rf E H with
          | none => rfl
          | some v =>
            show YOK P D rg _ (yOf (finQ c v cs' H))
            rw [finQ_eq]
            cases hf : finishA c v with
            | none => rfl
            | some c' =>
              show AStar P D rg _ (amFS (norm ⟨c', cs', H⟩)) ∧ norm (amFS (norm ⟨c', cs', H⟩)) = norm ⟨c', cs', H⟩
              rw [am_norm]
              refine ⟨.step (m1 := ⟨⟨xfn, false, none, xnt, E, k, [], .ret⟩, c :: cs', H⟩) rfl (.one ?_), rfl⟩
              show outStep P xfn false none xnt E k [] .ret (c :: cs') H = _
              unfold outStep
              simp only [hres v hv, hf]

/-! ### Code -/
noncomputable def nextK (todo : List AItem) : KK := ⟨fun x E H => .next (.fast x E todo H)⟩
noncomputable def badK : KK := ⟨fun _ _ _ => .fin none⟩
abbrev CT := List AItem → KK → KK
noncomputable def condB (A B : KF) (x : FX) (E : Tr AV) (H : Heap) (v : AV) : YR := V1.rec (motive := fun _ => YR) (fun _ _ => .fin none) (fun t => Bool.rec (motive := fun _ => YR) (B x E H) (A x E H) t) (fun _ _ => .fin none) (.fin none) (.fin none) (view1 v)
noncomputable def condK (c : Operand) (A B : KK) : KK := GK.rec (motive := fun _ => KK) (fun g => ⟨fun x E H => Option.rec (motive := fun _ => YR) (.fin none) (condB A.f B.f x E H) (g E)⟩) (mkG c)
noncomputable def exitK (id : Nat) (k : List AItem) : KK := Option.rec (motive := fun _ => KK) (stopY (.code (.exit id) :: k)) (fun k' => nextK k') (exitToA id k)
noncomputable def gotoK (l : Nat) (k : List AItem) : KK := Option.rec (motive := fun _ => KK) badK (fun k' => nextK k') (gotoA l k)
section
variable (P : Program) (D : Dec) (fn : FuncId) (nt : Nat)
noncomputable def regY (id : Nat) (ops : Array Oper) (draw : Bool) : CT := fun k ihk => Bool.rec (motive := fun _ => KK) (rowY P D nt ops k ihk ops.toList) (stopY (.code (.region id ops true) :: k)) draw
noncomputable def codeY (c : Code) : CT :=
  Code.rec (motive := fun _ => CT) (fun _ ihk => ihk) (regY P D nt) (fun _ b iha ihb k ihk => iha (.code b :: k) (ihb k ihk)) (fun c _ _ iha ihb k ihk => condK c (iha k ihk) (ihb k ihk)) (fun id _ ihb k ihk => ihb (.inBlock id :: k) ihk)
    (fun b _ k _ => nextK (.code b :: .inLoop b :: k)) (fun f ps a b _ _ k _ => stopY (.code (.rangeFunc f ps a b) :: k)) (fun id k _ => exitK id k) (fun b ihb k ihk => ihb (.inScope b :: k) ihk) (fun _ _ ihk => ihk) (fun l k _ => gotoK l k)
    (fun k _ => retK k (mkRes P fn)) (fun _ _ _ => badK) c
noncomputable def itemY (it : AItem) : CT :=
  AItem.rec (motive := fun _ => CT) (codeY P D fn nt) (fun _ _ ihk => ihk) (fun b k _ => nextK (.code b :: .inLoop b :: k)) (fun _ _ ihk => ihk) (fun all rest k ihk => rowY P D nt all k ihk rest) (fun l k _ => stopY (.inRF l :: k)) (fun l k _ => stopY (.endRF l :: k)) (fun k _ => stopY (.beginRound :: k)) it
noncomputable def kOf (todo : List AItem) : KK := List.rec (motive := fun _ => KK) (stopY []) (fun it k ih => itemY P D fn nt it k ih) todo
end
section
variable {P : Program} {D : Dec} {fn : FuncId} {nt : Nat}
theorem nextK_ok {todo k : List AItem} (h : ∀ (rg : Rg) (x : FX) (E : Tr AV) (H : Heap), astep P D rg (amOf x E todo H) = .next (amOf x E k H)) : KOK P D fn nt todo (nextK k) := fun rg x E H _ _ => ⟨.one (h rg x E H), rfl⟩
theorem stop_ok {todo : List AItem} : KOK P D fn nt todo (stopY todo) := fun _ _ _ _ _ _ => AStar.refl
theorem codeY_ok : ∀ (c : Code) (k : List AItem) (ihk : KK), KOK P D fn nt k ihk → KOK P D fn nt (.code c :: k) (codeY P D fn nt c k ihk)
  | .skip, k, ihk, hk => KOK.pre (fun _ _ _ _ => rfl) hk
  | .region id ops draw, k, ihk, hk => by
    cases draw with
    | true => exact stop_ok
    | false => exact KOK.pre (k := .inOps ops ops.toList :: k) (fun _ _ _ _ => rfl) (rowY_ok hk ops.toList)
  | .seq a b, k, ihk, hk => KOK.pre (k := .code a :: .code b :: k) (fun _ _ _ _ => rfl) (codeY_ok a (.code b :: k) _ (codeY_ok b k ihk hk))
  | .cond c a b, k, ihk, hk => by
    intro rg x E H h1 h2
    have ha := codeY_ok a k ihk hk rg x E H h1 h2
    have hb := codeY_ok b k ihk hk rg x E H h1 h2
    show YOK P D rg _ (Option.rec (motive := fun _ => YR) (.fin none) (condB (codeY P D fn nt a k ihk).f (codeY P D fn nt b k ihk).f x E H) ((mkG c).g E))
    rw [mkG_eq]
    cases hc : ev E c with
    | none => rfl
    | some v =>
      cases v with
      | bool t =>
        have hst : astep P D rg (amOf x E (.code (.cond c a b) :: k) H) = codeStep P rg x.fn x.df x.ro x.nt E (.cond c a b) k x.dfs x.cs H := rfl
        cases t with
        | true => exact ha.pre (.one (by rw [hst]; simp only [codeStep, hc]; rfl))
        | false => exact hb.pre (.one (by rw [hst]; simp only [codeStep, hc]; rfl))
      | _ => rfl
  | .block id b, k, ihk, hk => KOK.pre (k := .code b :: .inBlock id :: k) (fun _ _ _ _ => rfl) (codeY_ok b (.inBlock id :: k) ihk (KOK.pre (fun _ _ _ _ => rfl) hk))
  | .loop b, k, ihk, hk => nextK_ok fun _ _ _ _ => rfl
  | .rangeFunc f ps a b, k, ihk, hk => stop_ok
  | .exit id, k, ihk, hk => by
    show KOK P D fn nt _ (exitK id k)
    unfold exitK
    cases he : exitToA id k with
    | none => exact stop_ok
    | some k' =>
      refine nextK_ok fun rg x E H => ?_
      have hst : astep P D rg (amOf x E (.code (.exit id) :: k) H) = codeStep P rg x.fn x.df x.ro x.nt E (.exit id) k x.dfs x.cs H := rfl
      rw [hst]; simp only [codeStep, he]; rfl
  | .label l, k, ihk, hk => KOK.pre (fun _ _ _ _ => rfl) hk
  | .scope b, k, ihk, hk => KOK.pre (k := .code b :: .inScope b :: k) (fun _ _ _ _ => rfl) (codeY_ok b (.inScope b :: k) ihk (KOK.pre (fun _ _ _ _ => rfl) hk))
  | .goto l, k, ihk, hk => by
    show KOK P D fn nt _ (gotoK l k)
    unfold gotoK
    cases he : gotoA l k with
    | none => exact fun _ _ _ _ _ _ => rfl
    | some k' =>
      refine nextK_ok fun rg x E H => ?_
      have hst : astep P D rg (amOf x E (.code (.goto l) :: k) H) = codeStep P rg x.fn x.df x.ro x.nt E (.goto l) k x.dfs x.cs H := rfl
      rw [hst]; simp only [codeStep, he]; rfl
  | .ret, k, ihk, hk => retK_ok P D fn nt k
  | .refuse s, k, ihk, hk => fun _ _ _ _ _ _ => rfl
theorem itemY_ok (it : AItem) (k : List AItem) (ihk : KK) (hk : KOK P D fn nt k ihk) : KOK P D fn nt (it :: k) (itemY P D fn nt it k ihk) := by
  cases it with
  | code c => exact codeY_ok c k ihk hk
  | inBlock id => exact KOK.pre (fun _ _ _ _ => rfl) hk
  | inLoop b => exact nextK_ok fun _ _ _ _ => rfl
  | inScope b => exact KOK.pre (fun _ _ _ _ => rfl) hk
  | inOps all rest => exact rowY_ok hk rest
  | inRF l => exact stop_ok
  | endRF l => exact stop_ok
  | beginRound => exact stop_ok
theorem kOf_ok : ∀ (todo : List AItem), KOK P D fn nt todo (kOf P D fn nt todo)
  | [] => stop_ok
  | it :: k => itemY_ok it k _ (kOf_ok k)
end

/-! ### The machine -/
noncomputable def fastY (P : Program) (D : Dec) (todo : List AItem) (E : Tr AV) (H : Heap) (x : FX) : YR :=
  FX.rec (motive := fun _ => YR) (fun fn df ro nt dfs cs => (kOf P D fn nt todo).f ⟨fn, df, ro, nt, dfs, cs⟩ E H) x
noncomputable def frY (P : Program) (D : Dec) (rg : Rg) (r : YR) : FR' := YR.rec (motive := fun _ => FR') .next .fin (slowF P D rg) r
noncomputable def stepY (P : Program) (D : Dec) (rg : Rg) (s : FS) : FR' :=
  FS.rec (motive := fun _ => FR') (fun x E todo H => frY P D rg (fastY P D todo E H x)) (outQ P D rg) s
theorem stepY_ok {P : Program} {D : Dec} (rg : Rg) (s : FS) : StepOK P D rg (amFS s) (stepY P D rg s) := by
  cases s with
  | gen m =>
    show StepOK P D rg m (outQ P D rg m)
    rw [outQ_eq]
    exact ofSR_ok m
  | fast x E todo H =>
    show StepOK P D rg (amOf x E todo H) (frY P D rg (fastY P D todo E H x))
    have h : YOK P D rg (amOf x E todo H) (fastY P D todo E H x) := by
      obtain ⟨fn, df, ro, nt, dfs, cs⟩ := x
      exact kOf_ok todo rg _ E H rfl rfl
    generalize fastY P D todo E H x = r at h
    cases r with
    | next s => exact h
    | fin r => exact .inl h
    | slow x E todo H => exact StepOK.pre h (slowF_ok x E todo H)
noncomputable def loopY (P : Program) (D : Dec) (ih : FS → Option (FuncId × Fin' × Heap)) (s : FS) : Option (FuncId × Fin' × Heap) :=
  FR'.rec (motive := fun _ => Option (FuncId × Fin' × Heap)) (fun s' => ih s') (fun r => r) (stepY P D (drawA P D (fun m => ih (norm m))) s)
noncomputable def runYS (P : Program) (D : Dec) (n : Nat) : FS → Option (FuncId × Fin' × Heap) :=
  Nat.rec (motive := fun _ => FS → Option (FuncId × Fin' × Heap)) (fun _ => none) (fun _ ih s => loopY P D ih s) n
theorem runYS_ok {P : Program} {D : Dec} {ρ : Env} (hmix : P.follows .mixedOrders = true) (hD : D.OK P ρ) (hN : NoNG P) : ∀ n, RecOK P ρ (fun m => runYS P D n (norm m))
  | 0 => fun G μ m cs0 fr cs w hm fn H' => ⟨fun v hv => (by simp [runYS] at hv), fun ch hc => (by simp [runYS] at hc)⟩
  | n + 1 => loop_gen (stp := stepY P D) (fun rg s => stepY_ok rg s) hmix hD hN (ih := runYS P D n) (runYS_ok hmix hD hN n)
noncomputable def lawY (P : Program) (D : Dec) (n : Nat) (f : FuncId) (args : List AV) : Bool :=
  match enterA P f args false with
  | some g => isT f (runYS P D n (norm ⟨g, [], emptyH⟩))
  | none => false
theorem lawY_inv {P : Program} {D : Dec} {n : Nat} {f : FuncId} {args : List AV} (h : lawY P D n f args = true) : ∃ g H', enterA P f args false = some g ∧ runYS P D n (norm ⟨g, [], emptyH⟩) = some (f, .ret (.bool true), H') := by
  unfold lawY at h
  split at h
  · rename_i g hg
    unfold isT at h
    split at h
    · rename_i g' H' hr
      have e := Nat.eq_of_beq_eq_true h
      subst e
      exact ⟨g, H', hg, hr⟩
    · cases h
  · cases h
theorem lawY_callsI {P : Program} {ρ : Env} (hmix : P.follows .mixedOrders = true) (hN : NoNG P) {D : Dec} (hD : D.OK P ρ) {n : Nat} {f : FuncId} (hf : f ≠ 0) {args : List AV} (h : lawY P D n f args = true) {args' : Array Value} (ha : VRs (fun _ => none) ρ args args'.toList) (w : World) (hi : InpOK ⟨fun b => b < w.heap.size, fun _ => False⟩ ρ w) :
    Calls P f args' w fun e w' => e = .returned (.bool true) ∧ Below w.heap.size w w' := by
  obtain ⟨g, H', hg, hr⟩ := lawY_inv h
  refine calls_of_rec (runYS_ok hmix hD hN n) ha hg hf hr w hi fun μ v' w' hv _ hF => ?_
  cases hv
  exact ⟨rfl, hF.os, hF.tape, hF.output, hF.size, fun k hk => hF.block k hk hk⟩
theorem lawY_calls {P : Program} {ρ : Env} (hmix : P.follows .mixedOrders = true) (hN : NoNG P) {D : Dec} (hD : D.OK P ρ) {n : Nat} {f : FuncId} (hf : f ≠ 0) {args : List AV} (h : lawY P D n f args = true) {args' : Array Value} (ha : VRs (fun _ => none) ρ args args'.toList) (w : World) (h0 : ρ.cnt = 0 := by rfl) :
    Calls P f args' w fun e w' => e = .returned (.bool true) ∧ Below w.heap.size w w' :=
  lawY_callsI hmix hN hD hf h ha w (.none _ h0 w)
end Vx

/-! Regions that draw their order, made ready. -/
namespace Vx
open Go Go.RowKit

abbrev DT := Tr AV → Heap → Heap → List (Nat × Heap) → List (Nat × TypeId × AV × AV) → Nat → Nat → DrawR
/-- One operation of a drawn region, as drawGo does it. -/
noncomputable def drawStep (P : Program) (D : Dec) (rec : Rec) (all : Array Oper) (mt : Tr Nat) (base nt : Nat) (E0 : Tr AV) (o : Oper) (rest : List Oper) (i : Nat) (K : DT) : DT := fun E H cur sn ld am xm =>
  match wantedA all E o with
    | none => .bad
    | some false => match putA nt E o.dst (.tup []) with
      | some E' => K E' H cur sn ld am xm
      | none => .bad
    | some true => match isPure E o.op with
      | true => match opA P D E H o.op with
        | .val v _ => match putA nt E o.dst v with
          | some E' => K E' H cur sn ld am xm
          | none => .bad
        | _ => .bad
      | false => match o.op with
        | .load t x => match ev E x with
          | some ad => match loadA P cur t ad with
            | some v => match snapsOK P t ad v (og (mt.get i) 0) sn with
              | true => match putA nt E o.dst v with
                | some E' => K E' H cur sn ((i, t, ad, v) :: ld) am xm
                | none => .bad
              | false => .bad
            | none => .bad
          | none => .bad
        | op => match opMk P E op with
          | some m => match putA nt E o.dst (m.2 (Nat.add base i)) with
            | some E' => K E' ⟨H.tr.put (Nat.add base i) (some m.1), H.next⟩ cur sn ld (Nat.lor am (Nat.pow 2 i)) xm
            | none => .bad
          | none => match opA P D E H op with
            | r => match (match r with | .call f args => closedCall P D rec f args | _ => none) with
              | some v => match putA nt E o.dst v with
                | some E' => K E' H cur sn ld am xm
                | none => .bad
              | none => match Nat.beq (Nat.land (Nat.lor am xm) (og (mt.get i) 0)) (Nat.lor am xm) with
                | false => .bad
                | true => match effA P D rec H r with
                  | .ok v H' => match loadsOK P H' (og (mt.get i) 0) ld with
                    | true => match putA nt E o.dst v with
                      | some E' => K E' H' H' ((i, cur) :: sn) ld am (Nat.lor xm (Nat.pow 2 i))
                      | none => .bad
                    | false => .bad
                  | .pan c H' => match putA nt E o.dst (.tup []) with
                    | some E' => drawPan P D rec all mt base nt E0 i c H' rest (Nat.succ i) E' H cur sn ld am xm
                    | none => .bad
                  | .bad => .bad
theorem drawGo_cons (P : Program) (D : Dec) (rec : Rec) (all : Array Oper) (mt : Tr Nat) (n base nt : Nat) (E0 : Tr AV) (o : Oper) (rest : List Oper) (i : Nat) :
    drawGo P D rec all mt n base nt E0 (o :: rest) i = drawStep P D rec all mt base nt E0 o rest i (drawGo P D rec all mt n base nt E0 rest (Nat.succ i)) := by
  funext E H cur sn ld am xm
  unfold drawStep
  rw [drawGo]
  rfl
theorem drawStep_mk {P : Program} {D : Dec} {rec : Rec} {all : Array Oper} {mt : Tr Nat} {base nt : Nat} {E0 : Tr AV} {o : Oper} {rest : List Oper} {i : Nat} {K : DT} {E : Tr AV} {H cur : Heap} {sn : List (Nat × Heap)} {ld : List (Nat × TypeId × AV × AV)} {am xm : Nat} {m : Mk}
    (hw : wantedA all E o = some true) (h1 : isPure E o.op = false) (h2 : ∀ t x, o.op ≠ .load t x) (hm : opMk P E o.op = some m) :
    drawStep P D rec all mt base nt E0 o rest i K E H cur sn ld am xm = (match putA nt E o.dst (m.2 (Nat.add base i)) with
      | some E' => K E' ⟨H.tr.put (Nat.add base i) (some m.1), H.next⟩ cur sn ld (Nat.lor am (Nat.pow 2 i)) xm
      | none => .bad) := by
  unfold drawStep
  simp only [hw, h1]
  generalize o.op = op at h2 hm ⊢
  cases op <;> first
    | exact absurd rfl (h2 _ _)
    | simp only [hm]

structure DC : Type where
  rc : Rec
  base : Nat
  E0 : Tr AV
structure DS : Type where
  cur : Heap
  sn : List (Nat × Heap)
  ld : List (Nat × TypeId × AV × AV)
  am : Nat
  xm : Nat
abbrev DF := DC → Tr AV → Heap → DS → DrawR
structure DY : Type where
  f : DF
noncomputable def slowK (K : DF) (c : DC) : DT := fun E H cur sn ld am xm => K c E H ⟨cur, sn, ld, am, xm⟩
noncomputable def slowD (P : Program) (D : Dec) (all : Array Oper) (mt : Tr Nat) (nt : Nat) (o : Oper) (rest : List Oper) (i : Nat) (K : DF) : DF := fun c E H s =>
  DC.rec (motive := fun _ => DrawR) (fun rec base E0 => DS.rec (motive := fun _ => DrawR) (fun cur sn ld am xm => drawStep P D rec all mt base nt E0 o rest i (slowK K ⟨rec, base, E0⟩) E H cur sn ld am xm) s) c

/-! ### Kinds of operations -/
noncomputable def spure (op : Op) : Bool :=
  Op.rec (motive := fun _ => Bool) (fun _ => true) (fun _ => true) (fun _ _ _ => true) (fun _ => false) (fun _ _ => false) (fun _ _ => false) (fun _ _ _ => false) (fun _ _ _ _ => false) (fun _ _ => false) (fun _ _ _ => false) (fun _ => false) (fun _ => false)
    (fun _ => true) (fun _ _ _ _ _ => true) (fun _ _ _ => true) (fun _ _ _ => false) (fun _ _ => false) (fun _ _ => true) (fun _ _ _ => false) (fun _ _ => false) (fun _ _ => false) (fun _ _ _ => false) (fun _ _ _ _ _ => false) (fun _ _ _ => true) (fun _ _ _ => true)
    (fun _ _ _ => true) (fun _ _ _ => true) (fun _ _ _ _ => false) (fun _ _ _ _ => false) (fun _ _ _ => false) (fun _ _ _ _ => false) (fun _ _ => false) (fun _ _ => false) (fun _ => false) (fun _ _ _ _ => true) (fun _ _ => true) (fun _ => false) (fun _ => false)
    (fun _ => false) (fun _ => false) (fun _ _ => false) (fun _ _ _ => false) (fun _ _ => false) op
theorem spure_ok {op : Op} (h : spure op = true) (E : Tr AV) : isPure E op = true := by
  cases op <;> first | rfl | cases h
/-- len is pure. -/
noncomputable def lenC (c : Call) : Bool :=
  match c.callee with
  | .builtin b => match b with
    | .len => true
    | _ => false
  | _ => false
theorem lenC_ok {c : Call} (h : lenC c = true) (E : Tr AV) : isPure E (.call c) = true := by
  unfold lenC at h
  split at h
  · rename_i b hb
    split at h
    · simp only [isPure, hb]
    · cases h
  · cases h
/-- Conversions of whole numbers. -/
noncomputable def cvI (f : Heap → AV → Option AV) (H : Heap) (a : AV) : Option AV := V1.rec (motive := fun _ => Option AV) (fun k n => f H (.int k n)) (fun _ => none) (fun _ _ => none) none none (view1 a)
/-- Slices of slices. -/
noncomputable def slQ (f : Heap → Option (Option AV) → Option (Option AV) → AV → Option AV) (H : Heap) (l h : Option (Option AV)) (a : AV) : Option AV := V2.rec (motive := fun _ => Option AV) (fun _ _ => none) (fun _ _ _ => f H l h a) (f H l h a) none (view2 a)
noncomputable def vkSlQ (P : Program) (t : TypeId) (x : Operand) (lo hi : Option Operand) : VK :=
  GK.rec (motive := fun _ => VK) (fun g => GO.rec (motive := fun _ => VK) (fun gl => GO.rec (motive := fun _ => VK) (fun gh => ⟨fun E H => ob1 (slQ (slF P t) H (gl E) (gh E)) (g E)⟩) (mkGO hi)) (mkGO lo)) (mkG x)
inductive DK : Type where
  | pure (f : Tr AV → Heap → Option AV)
  | load (t : TypeId) (x : Operand)
  | mk
  | call (cc : CC)
  | other
noncomputable def dkV (vk : Option VK) : DK := Option.rec (motive := fun _ => DK) .other (fun vk => VK.rec (motive := fun _ => DK) (fun f => .pure f) vk) vk
noncomputable def dkCall (P : Program) (D : Dec) (c : Call) : DK := Bool.rec (motive := fun _ => DK) (Option.rec (motive := fun _ => DK) .other (fun cc => .call cc) (mkCall P c)) (dkV (mkV P D (.call c))) (lenC c)
noncomputable def dkSl (P : Program) (t : TypeId) (x : Operand) (lo hi mx : Option Operand) : DK := Option.rec (motive := fun _ => DK) (dkV (some (vkSlQ P t x lo hi))) (fun _ => .other) mx
noncomputable def mkDK (P : Program) (D : Dec) (op : Op) : DK :=
  Op.rec (motive := fun _ => DK) (fun _ => dkV (mkV P D op)) (fun _ => dkV (mkV P D op)) (fun _ _ _ => dkV (mkV P D op)) (fun _ => .mk) (fun _ _ => .mk) (fun _ _ => .other) (fun _ _ _ => .mk) (fun _ _ _ _ => .other) (fun t x => .load t x) (fun _ _ _ => .other) (fun _ => .other) (fun _ => .other)
    (fun _ => dkV (mkV P D op)) (fun _ _ _ _ _ => dkV (mkV P D op)) (fun _ _ _ => dkV (mkV P D op)) (fun s d x => dkV (some (vk1H (cvI fun H a => convX P H s d a) x))) (fun _ _ => .other) (fun _ _ => dkV (mkV P D op)) (fun _ _ _ => .other) (fun _ _ => .mk) (fun _ _ => .other) (fun _ _ _ => .mk)
    (fun t x lo hi mx => dkSl P t x lo hi mx) (fun _ _ _ => dkV (mkV P D op)) (fun _ _ _ => dkV (mkV P D op))
    (fun _ _ _ => dkV (mkV P D op)) (fun _ _ _ => dkV (mkV P D op)) (fun _ _ _ _ => .other) (fun _ _ _ _ => .other) (fun _ _ _ => .other) (fun _ _ _ _ => .other) (fun _ _ => .other) (fun _ _ => .other) (fun _ => .other) (fun _ _ _ _ => dkV (mkV P D op)) (fun _ _ => dkV (mkV P D op)) (fun c => dkCall P D c) (fun _ => .other)
    (fun _ => .other) (fun _ => .other) (fun _ _ => .other) (fun _ _ _ => .other) (fun _ _ => .other) op
def DKOK (P : Program) (D : Dec) (op : Op) : DK → Prop
  | .pure f => ∀ E H v, f E H = some v → isPure E op = true ∧ opA P D E H op = .val v H
  | .load t x => op = .load t x
  | .mk => (∀ E, isPure E op = false) ∧ ∀ t x, op ≠ .load t x
  | .call cc => ∃ c, op = .call c ∧ mkCall P c = some cc
  | .other => True
theorem dkV_ok {P : Program} {D : Dec} {op : Op} (h : spure op = true) : DKOK P D op (dkV (mkV P D op)) := by
  cases hv : mkV P D op with
  | none => trivial
  | some vk =>
    have := mkV_ok hv
    obtain ⟨f⟩ := vk
    exact fun E H v hf => ⟨spure_ok h E, this E H v hf⟩
theorem mkDK_ok (P : Program) (D : Dec) (op : Op) : DKOK P D op (mkDK P D op) := by
  have hV : spure op = true → DKOK P D op (dkV (mkV P D op)) := dkV_ok
  have hm : (∀ E, isPure E op = false) → (∀ t x, op ≠ .load t x) → DKOK P D op .mk := fun h1 h2 => ⟨h1, h2⟩
  cases op with
  | load t x => exact rfl
  | convert s d x =>
    intro E H v hv
    have hv : (vk1H (cvI fun H a => convX P H s d a) x).f E H = some v := hv
    rw [vk1H_f] at hv
    obtain ⟨a, h1, h2⟩ := ob1_some hv
    cases a with
    | int k n =>
      have h2 : convX P H s d (.int k n) = some v := h2
      refine ⟨by simp only [isPure, h1], ?_⟩
      simp only [opA, h1, h2]; rfl
    | _ => cases h2
  | slice t x lo hi mx =>
    cases mx with
    | some m => trivial
    | none =>
      intro E H v hv
      have hv : ob1 (slQ (slF P t) H ((mkGO lo).g E) ((mkGO hi).g E)) ((mkG x).g E) = some v := hv
      rw [mkG_eq, mkGO_eq, mkGO_eq] at hv
      obtain ⟨a, h1, h2⟩ := ob1_some hv
      have key : slF P t H (evo E lo) (evo E hi) a = some v → opA P D E H (.slice t x lo hi none) = .val v H := fun h => by
        obtain ⟨l, h', h3, h4, h5⟩ := obO_some h
        simp only [opA, h1, h3, h4, h5]; rfl
      cases a with
      | sl k o len cap esz => exact ⟨by simp only [isPure, h1], key h2⟩
      | nils => exact ⟨by simp only [isPure, h1], key h2⟩
      | _ => cases h2
  | call c =>
    show DKOK P D (.call c) (dkCall P D c)
    unfold dkCall
    cases hl : lenC c with
    | true =>
      show DKOK P D (.call c) (dkV (mkV P D (.call c)))
      cases hv : mkV P D (.call c) with
      | none => trivial
      | some vk =>
        have := mkV_ok hv
        obtain ⟨f⟩ := vk
        exact fun E H v hf => ⟨lenC_ok hl E, this E H v hf⟩
    | false =>
      show DKOK P D (.call c) (Option.rec (motive := fun _ => DK) .other (fun cc => .call cc) (mkCall P c))
      cases hc : mkCall P c with
      | none => trivial
      | some cc => exact ⟨c, rfl, hc⟩
  | _ => first | exact hV rfl | exact hm (fun _ => rfl) (fun _ _ h => by cases h) | trivial

/-! ### One operation -/
noncomputable def putD (cw : CW) (K : DF) (c : DC) (E : Tr AV) (v : AV) (H : Heap) (s : DS) : DrawR := CW.rec (motive := fun _ => DrawR) (K c E H s) (fun p => K c (p E v) H s) .bad cw
noncomputable def pureD (cw : CW) (S K : DF) (f : Tr AV → Heap → Option AV) : DF := fun c E H s => Option.rec (motive := fun _ => DrawR) (S c E H s) (fun v => putD cw K c E v H s) (f E H)
noncomputable def loadD3 (P : Program) (cw : CW) (K : DF) (t : TypeId) (i b : Nat) (c : DC) (E : Tr AV) (H : Heap) (ad : AV) (cur : Heap) (sn : List (Nat × Heap)) (ld : List (Nat × TypeId × AV × AV)) (am xm : Nat) (v : AV) : DrawR :=
  Bool.rec (motive := fun _ => DrawR) .bad (putD cw K c E v H ⟨cur, sn, (i, t, ad, v) :: ld, am, xm⟩) (snapsOK P t ad v b sn)
noncomputable def loadD2 (P : Program) (cw : CW) (S K : DF) (t : TypeId) (li : LI) (i b : Nat) (c : DC) (E : Tr AV) (H : Heap) (s : DS) (ad : AV) : DrawR :=
  DS.rec (motive := fun _ => DrawR) (fun cur sn ld am xm => Option.rec (motive := fun _ => DrawR) (S c E H s) (loadD3 P cw K t i b c E H ad cur sn ld am xm) (ldA li cur ad)) s
noncomputable def loadD (P : Program) (cw : CW) (S K : DF) (t : TypeId) (li : LI) (g : Tr AV → Option AV) (i b : Nat) : DF := fun c E H s => Option.rec (motive := fun _ => DrawR) .bad (loadD2 P cw S K t li i b c E H s) (g E)
noncomputable def mkD3 (cw : CW) (K : DF) (i : Nat) (c : DC) (E : Tr AV) (t : Tr AObj) (nx : Nat) (cur : Heap) (sn : List (Nat × Heap)) (ld : List (Nat × TypeId × AV × AV)) (am xm : Nat) (ob : AObj) (fk : Nat → AV) (kk : Nat) : DrawR :=
  putD cw K c E (fk kk) ⟨t.put kk (some ob), nx⟩ ⟨cur, sn, ld, Nat.lor am (Nat.pow 2 i), xm⟩
noncomputable def mkD2 (cw : CW) (K : DF) (i : Nat) (c : DC) (E : Tr AV) (H : Heap) (s : DS) (m : Mk) : DrawR :=
  DS.rec (motive := fun _ => DrawR) (fun cur sn ld am xm => Prod.rec (motive := fun _ => DrawR) (fun ob fk => Heap.rec (motive := fun _ => DrawR) (fun t nx => DC.rec (motive := fun _ => DrawR) (fun _ base _ => forceNat (Nat.add base i) (mkD3 cw K i c E t nx cur sn ld am xm ob fk)) c) H) m) s
noncomputable def mkD (P : Program) (cw : CW) (S K : DF) (op : Op) (i : Nat) : DF := fun c E H s => Option.rec (motive := fun _ => DrawR) (S c E H s) (mkD2 cw K i c E H s) (opMk P E op)
noncomputable def okD (P : Program) (cw : CW) (K : DF) (i b : Nat) (c : DC) (E : Tr AV) (cur : Heap) (sn : List (Nat × Heap)) (ld : List (Nat × TypeId × AV × AV)) (am xm : Nat) (v : AV) (H' : Heap) : DrawR :=
  Bool.rec (motive := fun _ => DrawR) .bad (putD cw K c E v H' ⟨H', (i, cur) :: sn, ld, am, Nat.lor xm (Nat.pow 2 i)⟩) (loadsOK P H' b ld)
noncomputable def effD (P : Program) (cw : CW) (sl : DrawR) (K : DF) (i b : Nat) (c : DC) (E : Tr AV) (cur : Heap) (sn : List (Nat × Heap)) (ld : List (Nat × TypeId × AV × AV)) (am xm : Nat) (r : EffR) : DrawR :=
  EffR.rec (motive := fun _ => DrawR) (okD P cw K i b c E cur sn ld am xm) (fun _ _ => sl) .bad r
noncomputable def callD3 (P : Program) (D : Dec) (cw : CW) (sl : DrawR) (K : DF) (i b : Nat) (c : DC) (E : Tr AV) (H : Heap) (s : DS) (g : FuncId) (l : List AV) : DrawR :=
  DS.rec (motive := fun _ => DrawR) (fun cur sn ld am xm => Bool.rec (motive := fun _ => DrawR) .bad (effD P cw sl K i b c E cur sn ld am xm (effA P D c.rc H (.call g l))) (Nat.beq (Nat.land (Nat.lor am xm) b) (Nat.lor am xm))) s
noncomputable def callD2 (P : Program) (D : Dec) (cw : CW) (S K : DF) (i b : Nat) (c : DC) (E : Tr AV) (H : Heap) (s : DS) (g : FuncId) (l : List AV) : DrawR :=
  Option.rec (motive := fun _ => DrawR) (callD3 P D cw (S c E H s) K i b c E H s g l) (fun v => putD cw K c E v H s) (closedCall P D c.rc g l)
noncomputable def callD (P : Program) (D : Dec) (cw : CW) (S K : DF) (i b : Nat) (g : FuncId) (ar : Tr AV → Option (List AV)) : DF := fun c E H s =>
  Option.rec (motive := fun _ => DrawR) (S c E H s) (callD2 P D cw S K i b c E H s g) (ar E)
noncomputable def opD (P : Program) (D : Dec) (cw : CW) (S K : DF) (op : Op) (i b : Nat) (k : DK) : DF :=
  DK.rec (motive := fun _ => DF) (pureD cw S K) (fun t x => GK.rec (motive := fun _ => DF) (fun g => loadD P cw S K t (mkLI P t) g i b) (mkG x)) (mkD P cw S K op i)
    (fun cc => CC.rec (motive := fun _ => DF) (fun g _ _ args => AK.rec (motive := fun _ => DF) (fun ar => callD P D cw S K i b g ar) (mkArgs args)) cc) S k
noncomputable def gdD (cw : CW) (_S K I : DF) (g : Tr AV → Option AV) (want : Bool) : DF := fun c E H s =>
  Option.rec (motive := fun _ => DrawR) .bad (fun w => Bool.rec (motive := fun _ => DrawR) (putD cw K c E (.tup []) H s) (I c E H s) w) (guard3 want (g E))
noncomputable def consD (cw : CW) (cg : CG) (S K I : DF) : DF := CG.rec (motive := fun _ => DF) I (gdD cw S K I) S cg
noncomputable def consDY (P : Program) (D : Dec) (all : Array Oper) (mt : Tr Nat) (nt : Nat) (o : Oper) (rest : List Oper) (i : Nat) (cw : CW) (K : DF) : DF :=
  consD cw (mkCG all.toList o.guard) (slowD P D all mt nt o rest i K) K (opD P D cw (slowD P D all mt nt o rest i K) K o.op i (og (mt.get i) 0) (mkDK P D o.op))
noncomputable def mkDY (P : Program) (D : Dec) (all : Array Oper) (mt : Tr Nat) (nt : Nat) (l : List Oper) : Nat → DY :=
  List.rec (motive := fun _ => Nat → DY) (fun _ => ⟨fun _ E H _ => .ok E H⟩) (fun o rest ih i => DY.rec (motive := fun _ => DY) (fun K => ⟨consDY P D all mt nt o rest i (mkCW nt o.dst) K⟩) (ih (Nat.succ i))) l

section
variable {P : Program} {D : Dec} {all : Array Oper} {mt : Tr Nat} {n nt : Nat} {o : Oper} {rest : List Oper} {i : Nat} {K : DF}
def DOK (P : Program) (D : Dec) (all : Array Oper) (mt : Tr Nat) (n nt : Nat) (l : List Oper) (i : Nat) (K : DF) : Prop :=
  ∀ c E H s, K c E H s = drawGo P D c.rc all mt n c.base nt c.E0 l i E H s.cur s.sn s.ld s.am s.xm
theorem slowD_ok (hK : DOK P D all mt n nt rest (Nat.succ i) K) : DOK P D all mt n nt (o :: rest) i (slowD P D all mt nt o rest i K) := by
  intro c E H s
  obtain ⟨rec, base, E0⟩ := c
  obtain ⟨cur, sn, ld, am, xm⟩ := s
  show drawStep P D rec all mt base nt E0 o rest i (slowK K ⟨rec, base, E0⟩) E H cur sn ld am xm = _
  rw [drawGo_cons]
  have : slowK K ⟨rec, base, E0⟩ = drawGo P D rec all mt n base nt E0 rest (Nat.succ i) := by
    funext E H cur sn ld am xm
    exact hK ⟨rec, base, E0⟩ E H ⟨cur, sn, ld, am, xm⟩
  rw [this]
theorem putD_ok (hK : DOK P D all mt n nt rest (Nat.succ i) K) (c : DC) (E : Tr AV) (v : AV) (H : Heap) (s : DS) :
    putD (mkCW nt o.dst) K c E v H s = (match putA nt E o.dst v with
      | some E' => drawGo P D c.rc all mt n c.base nt c.E0 rest (Nat.succ i) E' H s.cur s.sn s.ld s.am s.xm
      | none => .bad) := by
  cases hc : mkCW nt o.dst with
  | no => rw [cw_no hc E v]; exact hK c E H s
  | put p => rw [cw_put hc E v]; exact hK c (p E v) H s
  | bad =>
    have : putA nt E o.dst v = none := by
      unfold mkCW at hc
      unfold putA
      cases hd : o.dst with
      | none => rw [hd] at hc; cases hc
      | some d =>
        rw [hd] at hc
        dsimp only at hc ⊢
        cases hb : Nat.ble (Nat.succ d) nt with
        | false => rfl
        | true => rw [hb] at hc; cases hc
    rw [this]; rfl
theorem opD_ok (hK : DOK P D all mt n nt rest (Nat.succ i) K) (k : DK) (hk : DKOK P D o.op k) (c : DC) (E : Tr AV) (H : Heap) (s : DS) (hw : wantedA all E o = some true) :
    opD P D (mkCW nt o.dst) (slowD P D all mt nt o rest i K) K o.op i (og (mt.get i) 0) k c E H s = drawGo P D c.rc all mt n c.base nt c.E0 (o :: rest) i E H s.cur s.sn s.ld s.am s.xm := by
  have hS := slowD_ok (o := o) hK c E H s
  cases k with
  | other => exact hS
  | pure f =>
    show Option.rec (motive := fun _ => DrawR) (slowD P D all mt nt o rest i K c E H s) (fun v => putD (mkCW nt o.dst) K c E v H s) (f E H) = _
    cases hf : f E H with
    | none => exact hS
    | some v =>
      obtain ⟨h1, h2⟩ := hk E H v hf
      show putD (mkCW nt o.dst) K c E v H s = _
      rw [putD_ok hK, drawGo_cons]
      unfold drawStep
      simp only [hw, h1, h2]
  | load t x =>
    have hop : o.op = .load t x := hk
    obtain ⟨cur, sn, ld, am, xm⟩ := s
    show Option.rec (motive := fun _ => DrawR) .bad (loadD2 P (mkCW nt o.dst) (slowD P D all mt nt o rest i K) K t (mkLI P t) i (og (mt.get i) 0) c E H ⟨cur, sn, ld, am, xm⟩) ((mkG x).g E) = _
    rw [mkG_eq]
    have hpu : isPure E (.load t x) = false := rfl
    cases he : ev E x with
    | none =>
      rw [drawGo_cons]
      unfold drawStep
      simp only [hw, hop, hpu, he]
    | some ad =>
      show Option.rec (motive := fun _ => DrawR) (slowD P D all mt nt o rest i K c E H ⟨cur, sn, ld, am, xm⟩) (loadD3 P (mkCW nt o.dst) K t i (og (mt.get i) 0) c E H ad cur sn ld am xm) (ldA (mkLI P t) cur ad) = _
      cases hl : ldA (mkLI P t) cur ad with
      | none => exact hS
      | some v =>
        show Bool.rec (motive := fun _ => DrawR) .bad (putD (mkCW nt o.dst) K c E v H ⟨cur, sn, (i, t, ad, v) :: ld, am, xm⟩) (snapsOK P t ad v (og (mt.get i) 0) sn) = _
        rw [putD_ok hK, drawGo_cons]
        unfold drawStep
        simp only [hw, hop, hpu, he, ldA_ok hl]
        cases snapsOK P t ad v (og (mt.get i) 0) sn <;> rfl
  | mk =>
    obtain ⟨h1, h2⟩ := hk
    obtain ⟨cur, sn, ld, am, xm⟩ := s
    show Option.rec (motive := fun _ => DrawR) (slowD P D all mt nt o rest i K c E H ⟨cur, sn, ld, am, xm⟩) (mkD2 (mkCW nt o.dst) K i c E H ⟨cur, sn, ld, am, xm⟩) (opMk P E o.op) = _
    cases hm : opMk P E o.op with
    | none => exact hS
    | some m =>
      obtain ⟨ob, fk⟩ := m
      obtain ⟨t, nx⟩ := H
      obtain ⟨rec, base, E0⟩ := c
      show forceNat (Nat.add base i) (mkD3 (mkCW nt o.dst) K i ⟨rec, base, E0⟩ E t nx cur sn ld am xm ob fk) = _
      rw [forceNat_eq]
      unfold mkD3
      rw [putD_ok hK, drawGo_cons]
      exact (drawStep_mk (P := P) (D := D) (rec := rec) (all := all) (mt := mt) (base := base) (nt := nt) (E0 := E0) (o := o) (rest := rest) (i := i) (K := drawGo P D rec all mt n base nt E0 rest (Nat.succ i)) (E := E) (H := ⟨t, nx⟩) (cur := cur) (sn := sn) (ld := ld) (am := am) (xm := xm) (m := (ob, fk)) hw (h1 E) h2 hm).symm
  | call cc =>
    obtain ⟨cl, hop, hc⟩ := hk
    obtain ⟨cur, sn, ld, am, xm⟩ := s
    unfold mkCall at hc
    split at hc
    · rename_i f hf
      split at hc
      · rename_i g
        split at hc
        · rename_i hb
          split at hc
          · rename_i F hF
            split at hc
            · rename_i b hbd
              split at hc
              · rename_i hle
                cases hc
                show Option.rec (motive := fun _ => DrawR) (slowD P D all mt nt o rest i K c E H ⟨cur, sn, ld, am, xm⟩) (callD2 P D (mkCW nt o.dst) (slowD P D all mt nt o rest i K) K i (og (mt.get i) 0) c E H ⟨cur, sn, ld, am, xm⟩ g) ((mkArgs cl.args.toList).g E) = _
                rw [mkArgs_eq]
                cases he : evs E cl.args.toList with
                | none => exact hS
                | some l =>
                  have hpu : isPure E (.call cl) = false := by simp only [isPure, hf]
                  have hoA : opA P D E H (.call cl) = .call g l := by simp only [opA, callA, he, hf, ev, hb, List.nil_append, List.append_nil]
                  have hmk : opMk P E (.call cl) = none := rfl
                  show Option.rec (motive := fun _ => DrawR) (callD3 P D (mkCW nt o.dst) (slowD P D all mt nt o rest i K c E H ⟨cur, sn, ld, am, xm⟩) K i (og (mt.get i) 0) c E H ⟨cur, sn, ld, am, xm⟩ g l) (fun v => putD (mkCW nt o.dst) K c E v H ⟨cur, sn, ld, am, xm⟩) (closedCall P D c.rc g l) = _
                  cases hcc : closedCall P D c.rc g l with
                  | some v =>
                    show putD (mkCW nt o.dst) K c E v H ⟨cur, sn, ld, am, xm⟩ = _
                    rw [putD_ok hK, drawGo_cons]
                    unfold drawStep
                    simp only [hw, hop, hpu, hmk, hoA, hcc]
                  | none =>
                    show Bool.rec (motive := fun _ => DrawR) .bad (effD P (mkCW nt o.dst) (slowD P D all mt nt o rest i K c E H ⟨cur, sn, ld, am, xm⟩) K i (og (mt.get i) 0) c E cur sn ld am xm (effA P D c.rc H (.call g l))) (Nat.beq (Nat.land (Nat.lor am xm) (og (mt.get i) 0)) (Nat.lor am xm)) = _
                    have hgo := drawGo_cons P D c.rc all mt n c.base nt c.E0 o rest i
                    cases hbb : Nat.beq (Nat.land (Nat.lor am xm) (og (mt.get i) 0)) (Nat.lor am xm) with
                    | false =>
                      rw [hgo]
                      unfold drawStep
                      simp only [hw, hop, hpu, hmk, hoA, hcc, hbb]
                    | true =>
                      show effD P (mkCW nt o.dst) (slowD P D all mt nt o rest i K c E H ⟨cur, sn, ld, am, xm⟩) K i (og (mt.get i) 0) c E cur sn ld am xm (effA P D c.rc H (.call g l)) = _
                      cases hef : effA P D c.rc H (.call g l) with
                      | pan ch H' => exact hS
                      | bad =>
                        rw [hgo]
                        unfold drawStep
                        simp only [hw, hop, hpu, hmk, hoA, hcc, hbb, hef]
                        rfl
                      | ok v H' =>
                        show Bool.rec (motive := fun _ => DrawR) .bad (putD (mkCW nt o.dst) K c E v H' ⟨H', (i, cur) :: sn, ld, am, Nat.lor xm (Nat.pow 2 i)⟩) (loadsOK P H' (og (mt.get i) 0) ld) = _
                        rw [putD_ok hK, hgo]
                        unfold drawStep
                        simp only [hw, hop, hpu, hmk, hoA, hcc, hbb, hef]
                        cases loadsOK P H' (og (mt.get i) 0) ld <;> rfl
              · cases hc
            · cases hc
          · cases hc
        · cases hc
      · cases hc
    · cases hc
theorem consDY_ok (hK : DOK P D all mt n nt rest (Nat.succ i) K) : DOK P D all mt n nt (o :: rest) i (consDY P D all mt nt o rest i (mkCW nt o.dst) K) := by
  intro c E H s
  have hI := opD_ok (o := o) hK (mkDK P D o.op) (mkDK_ok P D o.op) c E H s
  have hS := slowD_ok (o := o) hK c E H s
  have hg := guardF_eq all E o
  unfold guardF at hg
  unfold consDY mkCG
  cases hgd : o.guard with
  | none => rw [hgd] at hg; exact hI hg.symm
  | some p =>
    obtain ⟨j, want⟩ := p
    rw [hgd] at hg
    have hg : guard2 want E (nth all.toList j) = wantedA all E o := hg
    dsimp only
    cases hn : nth all.toList j with
    | none => exact hS
    | some oj =>
      rw [hn] at hg
      have hg : Option.rec (motive := fun _ => Option Bool) none (fun d => guard3 want (E.get d)) oj.dst = wantedA all E o := hg
      dsimp only
      cases hd : oj.dst with
      | none => exact hS
      | some d =>
        rw [hd] at hg
        have hg : guard3 want (E.get d) = wantedA all E o := hg
        rw [← mkGt_eq] at hg
        show Option.rec (motive := fun _ => DrawR) .bad (fun w => Bool.rec (motive := fun _ => DrawR) (putD (mkCW nt o.dst) K c E (.tup []) H s) (opD P D (mkCW nt o.dst) (slowD P D all mt nt o rest i K) K o.op i (og (mt.get i) 0) (mkDK P D o.op) c E H s) w) (guard3 want ((mkGt d).g E)) = _
        cases hw : guard3 want ((mkGt d).g E) with
        | none =>
          rw [hw] at hg
          rw [drawGo_cons]
          unfold drawStep
          simp only [← hg]
        | some b =>
          rw [hw] at hg
          cases b with
          | true => exact hI hg.symm
          | false =>
            show putD (mkCW nt o.dst) K c E (.tup []) H s = _
            rw [putD_ok hK, drawGo_cons]
            unfold drawStep
            simp only [← hg]
theorem mkDY_ok : ∀ (l : List Oper) (i : Nat), DOK P D all mt n nt l i (mkDY P D all mt nt l i).f
  | [], i => fun c E H s => by rw [drawGo]; rfl
  | o :: rest, i => consDY_ok (mkDY_ok rest (Nat.succ i))
end
noncomputable def drawR2 (P : Program) (D : Dec) (rec : Rec) (nt : Nat) (E : Tr AV) (ops : Array Oper) (t : Tr AObj) (next base : Nat) (mt : Tr Nat) : DrawR :=
  (mkDY P D ops mt nt ops.toList 0).f ⟨rec, next, E⟩ E ⟨t, base⟩ ⟨⟨t, base⟩, [], [], 0, 0⟩
noncomputable def drawQ (P : Program) (D : Dec) (rec : Rec) : Rg := fun nt E H ops =>
  Option.rec (motive := fun _ => DrawR) .bad (fun mt => Heap.rec (motive := fun _ => DrawR) (fun t next => forceNat (Nat.add next ops.toList.length) fun b => drawR2 P D rec nt E ops t next b mt) H) (planA ops)
theorem drawQ_eq (P : Program) (D : Dec) (rec : Rec) : drawQ P D rec = drawA P D rec := by
  funext nt E H ops
  unfold drawQ drawA
  cases planA ops with
  | none => rfl
  | some mt =>
    obtain ⟨t, next⟩ := H
    show forceNat (Nat.add next ops.toList.length) _ = _
    rw [forceNat_eq]
    exact mkDY_ok (n := ops.toList.length) ops.toList 0 ⟨rec, next, E⟩ E _ _

/-! ### The machine -/
noncomputable def loopZ (P : Program) (D : Dec) (ih : FS → Option (FuncId × Fin' × Heap)) (s : FS) : Option (FuncId × Fin' × Heap) :=
  FR'.rec (motive := fun _ => Option (FuncId × Fin' × Heap)) (fun s' => ih s') (fun r => r) (stepY P D (drawQ P D (fun m => ih (norm m))) s)
noncomputable def runZS (P : Program) (D : Dec) (n : Nat) : FS → Option (FuncId × Fin' × Heap) :=
  Nat.rec (motive := fun _ => FS → Option (FuncId × Fin' × Heap)) (fun _ => none) (fun _ ih s => loopZ P D ih s) n
theorem runZS_eq (P : Program) (D : Dec) : ∀ n, runZS P D n = runYS P D n
  | 0 => rfl
  | n + 1 => by
    funext s
    show loopZ P D (runZS P D n) s = loopY P D (runYS P D n) s
    rw [runZS_eq P D n]
    unfold loopZ loopY
    rw [drawQ_eq]
noncomputable def lawZ (P : Program) (D : Dec) (n : Nat) (f : FuncId) (args : List AV) : Bool :=
  match enterA P f args false with
  | some g => isT f (runZS P D n (norm ⟨g, [], emptyH⟩))
  | none => false
theorem lawZ_eq (P : Program) (D : Dec) (n : Nat) (f : FuncId) (args : List AV) : lawZ P D n f args = lawY P D n f args := by
  have h := runZS_eq P D n
  unfold lawZ lawY
  cases enterA P f args false with
  | none => rfl
  | some g => exact congrArg (isT f) (congrFun h _)
end Vx

/-! Numbers that are known to lie between bounds. -/
namespace Vx
open Go Go.RowKit

/-- Some bits of a number, between two bounds. -/
structure IV : Type where
  i : Nat
  m : Nat
  lo : Nat
  hi : Nat
def IV.OK (ρ : Env) (c : IV) : Prop := (c.lo : Int) ≤ binVal .and .i64 (ρ c.i) (c.m : Int) ∧ binVal .and .i64 (ρ c.i) (c.m : Int) ≤ (c.hi : Int)
noncomputable def ivFind (j m : Nat) : List IV → Option (Int × Int)
  | [] => none
  | c :: r => match Nat.beq c.i j with
    | true => match Nat.beq c.m m with
      | true => some (.ofNat c.lo, .ofNat c.hi)
      | false => ivFind j m r
    | false => ivFind j m r
noncomputable def ivAt (l : List IV) (e : SE) : Option (Int × Int) :=
  match e with
  | .bin .and .i64 (.var j) (.lit (.ofNat m)) => ivFind j m l
  | _ => none
noncomputable def ivOp (op : BinOp) (k : IntKind) (x y n : Nat) : Option (Int × Int) :=
  match op with
  | .and => match k with
    | .i64 => match Nat.beq (Nat.pow 2 (Nat.log2 (Nat.succ n))) (Nat.succ n) with
      | true => match Nat.beq (Nat.div x (Nat.succ n)) (Nat.div y (Nat.succ n)) with
        | true => match Nat.ble n 4611686018427387904 with
          | true => some (.ofNat (Nat.mod x (Nat.succ n)), .ofNat (Nat.mod y (Nat.succ n)))
          | false => none
        | false => none
      | false => none
    | _ => none
  | .shr => match k with
    | .i64 => match Nat.ble n 63 with
      | true => some (.ofNat (Nat.div x (Nat.pow 2 n)), .ofNat (Nat.div y (Nat.pow 2 n)))
      | false => none
    | .u64 => match Nat.ble n 63 with
      | true => some (.ofNat (Nat.div x (Nat.pow 2 n)), .ofNat (Nat.div y (Nat.pow 2 n)))
      | false => none
    | _ => none
  | .add => match k with
    | .i64 => match Nat.ble (Nat.add y n) 4611686018427387904 with
      | true => some (.ofNat (Nat.add x n), .ofNat (Nat.add y n))
      | false => none
    | _ => none
  | .sub => match k with
    | .i64 => match Nat.ble n x with
      | true => some (.ofNat (Nat.sub x n), .ofNat (Nat.sub y n))
      | false => none
    | _ => none
  | _ => none
/-- A number that is moved down, whatever its sign. -/
noncomputable def ivShr (op : BinOp) (k : IntKind) (x y : Int) (n : Nat) : Option (Int × Int) :=
  match op with
  | .shr => match k with
    | .i64 => match Nat.ble n 63 with
      | true => some (Int.ediv x (.ofNat (Nat.pow 2 n)), Int.ediv y (.ofNat (Nat.pow 2 n)))
      | false => none
    | _ => none
  | _ => none
noncomputable def ivIn (op : BinOp) (k : IntKind) (n : Nat) (r : Option (Int × Int)) : Option (Int × Int) :=
  match r with
  | some (x, y) => match x with
    | .ofNat x => match y with
      | .ofNat y => match Nat.ble y 4611686018427387904 with
        | true => ivOp op k x y n
        | false => none
      | .negSucc _ => none
    | .negSucc a => ivShr op k (.negSucc a) y n
  | none => none
noncomputable def ivMask (op : BinOp) (k : IntKind) (n : Nat) : Option (Int × Int) :=
  match op with
  | .and => match k with
    | .i64 => match Nat.ble n 4611686018427387904 with
      | true => some (.ofNat 0, .ofNat n)
      | false => none
    | _ => none
  | _ => none
/-- A known number and a number between bounds. -/
noncomputable def ivLit (op : BinOp) (k : IntKind) (a : SE) (r : Option (Int × Int)) : Option (Int × Int) :=
  match op with
  | .add => match k with
    | .i64 => match a with
      | .lit (.ofNat n) => match r with
        | some (.ofNat x, .ofNat y) => match Nat.ble (Nat.add n y) 4611686018427387904 with
          | true => some (.ofNat (Nat.add n x), .ofNat (Nat.add n y))
          | false => none
        | _ => none
      | _ => none
    | _ => none
  | _ => none
/-- A number between bounds, as one of a kind. -/
noncomputable def ivConv (k : IntKind) (x y : Int) : Option (Int × Int) :=
  match k with
  | .i64 => match iblt x (-4611686018427387904) with
    | true => none
    | false => match iblt 4611686018427387904 y with
      | true => none
      | false => some (x, y)
  | k => match x with
    | .negSucc _ => none
    | .ofNat x => match y with
      | .negSucc _ => none
      | .ofNat y => match k with
        | .u64 => match Nat.ble y 4611686018427387904 with
          | true => some (.ofNat x, .ofNat y)
          | false => none
        | .u32 => match Nat.ble y 4294967295 with
          | true => some (.ofNat x, .ofNat y)
          | false => none
        | .i32 => match Nat.ble y 2147483647 with
          | true => some (.ofNat x, .ofNat y)
          | false => match Nat.ble 2147483648 x with
            | true => match Nat.ble y 4294967295 with
              | true => some (Int.sub (.ofNat x) 4294967296, Int.sub (.ofNat y) 4294967296)
              | false => none
            | false => none
        | _ => none
/-- What a kind of few bits holds. -/
noncomputable def ivKind (k : IntKind) : Option (Int × Int) :=
  match k with
  | .u8 => some (.ofNat 0, .ofNat 255)
  | .u16 => some (.ofNat 0, .ofNat 65535)
  | .u32 => some (.ofNat 0, .ofNat 4294967295)
  | .i32 => some (.negSucc 2147483647, .ofNat 2147483647)
  | _ => none
noncomputable def ivElse (k : IntKind) (r : Option (Int × Int)) : Option (Int × Int) :=
  match r with
  | some r => some r
  | none => ivKind k
noncomputable def ivOf (l : List IV) : SE → Option (Int × Int)
  | .lit n => some (n, n)
  | .var _ => none
  | .conv k a => match ivOf l a with
    | some (x, y) => ivElse k (ivConv k x y)
    | none => ivKind k
  | .bin op k a b => match ivAt l (.bin op k a b) with
    | some r => some r
    | none => match b with
      | .lit (.ofNat n) => match ivIn op k n (ivOf l a) with
        | some r => some r
        | none => ivMask op k n
      | _ => ivLit op k a (ivOf l b)
theorem ivFind_ok {ρ : Env} {j m : Nat} : ∀ {l : List IV}, (∀ c ∈ l, c.OK ρ) → ∀ {r : Int × Int}, ivFind j m l = some r → r.1 ≤ binVal .and .i64 (ρ j) (m : Int) ∧ binVal .and .i64 (ρ j) (m : Int) ≤ r.2
  | [], _, r, h => by simp [ivFind] at h
  | c :: l, hl, r, h => by
    have ih : ∀ {r : Int × Int}, ivFind j m l = some r → r.1 ≤ binVal .and .i64 (ρ j) (m : Int) ∧ binVal .and .i64 (ρ j) (m : Int) ≤ r.2 := ivFind_ok (l := l) fun c' hc => hl c' (List.mem_cons_of_mem _ hc)
    simp only [ivFind] at h
    split at h
    · rename_i h1
      split at h
      · rename_i h2
        cases h
        have h1 := Nat.eq_of_beq_eq_true h1
        have h2 := Nat.eq_of_beq_eq_true h2
        subst h1; subst h2
        exact hl c List.mem_cons_self
      · exact ih h
    · exact ih h
theorem ivAt_ok {ρ : Env} {l : List IV} (hl : ∀ c ∈ l, c.OK ρ) {e : SE} {r : Int × Int} (h : ivAt l e = some r) : r.1 ≤ e.val ρ ∧ e.val ρ ≤ r.2 := by
  unfold ivAt at h
  split at h
  · exact ivFind_ok hl h
  · cases h
theorem and_low (v n k : Nat) (hk : 2 ^ k = n + 1) (hn : n ≤ 4611686018427387904) (hv : v ≤ 4611686018427387904) : binVal .and .i64 (v : Int) (n : Int) = ((v % (n + 1) : Nat) : Int) := by
  have h1 : ((BitVec.ofInt 64 (v : Int)) &&& (BitVec.ofInt 64 (n : Int))).toNat = v % (n + 1) := by
    rw [BitVec.toNat_and, BitVec.toNat_ofInt, BitVec.toNat_ofInt]
    have e1 : ((v : Int) % ((2 ^ 64 : Nat) : Int)).toNat = v := by omega
    have e2 : ((n : Int) % ((2 ^ 64 : Nat) : Int)).toNat = n := by omega
    rw [e1, e2]
    have e3 : n = 2 ^ k - 1 := by omega
    rw [e3, Nat.and_two_pow_sub_one_eq_mod, ← e3, hk]
  have hlt : v % (n + 1) < n + 1 := Nat.mod_lt _ (by omega)
  show IntKind.i64.wrap ((((BitVec.ofInt 64 (v : Int)) &&& (BitVec.ofInt 64 (n : Int))).toNat : Nat) : Int) = _
  rw [h1]
  exact IntWalk.i64_in _ ⟨by omega, by omega⟩
theorem mod_mono {x v y d : Nat} (h1 : x ≤ v) (h2 : v ≤ y) (h : x / d = y / d) : x % d ≤ v % d ∧ v % d ≤ y % d := by
  have a1 := Nat.div_le_div_right (c := d) h1
  have a2 := Nat.div_le_div_right (c := d) h2
  have e : v / d = x / d := by omega
  have b1 := Nat.div_add_mod x d
  have b2 := Nat.div_add_mod v d
  have b3 := Nat.div_add_mod y d
  rw [e] at b2
  rw [← h] at b3
  omega
theorem ivOp_ok {ρ : Env} {op : BinOp} {k : IntKind} {a : SE} {x y n : Nat} (h1 : (x : Int) ≤ a.val ρ) (h2 : a.val ρ ≤ (y : Int)) (hy : y ≤ 4611686018427387904) {r : Int × Int} (h : ivOp op k x y n = some r) :
    r.1 ≤ binVal op k (a.val ρ) (n : Int) ∧ binVal op k (a.val ρ) (n : Int) ≤ r.2 := by
  obtain ⟨v, hv⟩ : ∃ v : Nat, a.val ρ = (v : Int) := ⟨(a.val ρ).toNat, by omega⟩
  rw [hv] at h1 h2 ⊢
  have shr : ∀ (k : IntKind), 63 < k.bits → n ≤ 63 → binVal .shr k (v : Int) (n : Int) = ((v / 2 ^ n : Nat) : Int) := fun k hk hn => by
    show Int.fdiv (v : Int) (2 ^ (min (n : Int).toNat k.bits)) = _
    have e : min (n : Int).toNat k.bits = n := by omega
    rw [e, Int.fdiv_eq_ediv_of_nonneg _ (by exact_mod_cast Nat.zero_le _)]
    norm_cast
  have bounds : ((x / 2 ^ n : Nat) : Int) ≤ ((v / 2 ^ n : Nat) : Int) ∧ ((v / 2 ^ n : Nat) : Int) ≤ ((y / 2 ^ n : Nat) : Int) := by
    have q1 := Nat.div_le_div_right (c := 2 ^ n) (show x ≤ v by omega)
    have q2 := Nat.div_le_div_right (c := 2 ^ n) (show v ≤ y by omega)
    omega
  unfold ivOp at h
  split at h
  · split at h
    · split at h
      · rename_i hp
        have hp := Nat.eq_of_beq_eq_true hp
        split at h
        · rename_i hd
          have hd := Nat.eq_of_beq_eq_true hd
          split at h
          · rename_i hn
            have hn := Nat.le_of_ble_eq_true hn
            cases h
            rw [and_low v n _ hp hn (by omega)]
            obtain ⟨m1, m2⟩ := mod_mono (show x ≤ v by omega) (show v ≤ y by omega) hd
            exact ⟨Int.ofNat_le.2 m1, Int.ofNat_le.2 m2⟩
          · cases h
        · cases h
      · cases h
    · cases h
  · split at h
    · split at h
      · rename_i hn
        have hn := Nat.le_of_ble_eq_true hn
        cases h
        rw [shr .i64 (by decide) hn]; exact bounds
      · cases h
    · split at h
      · rename_i hn
        have hn := Nat.le_of_ble_eq_true hn
        cases h
        rw [shr .u64 (by decide) hn]; exact bounds
      · cases h
    · cases h
  · split at h
    · split at h
      · rename_i hn
        have hn : y + n ≤ 4611686018427387904 := Nat.le_of_ble_eq_true hn
        cases h
        have e : binVal .add .i64 (v : Int) (n : Int) = (v : Int) + (n : Int) := IntWalk.i64_in _ ⟨by omega, by omega⟩
        rw [e]
        show ((x + n : Nat) : Int) ≤ _ ∧ _ ≤ ((y + n : Nat) : Int)
        omega
      · cases h
    · cases h
  · split at h
    · split at h
      · rename_i hn
        have hn : n ≤ x := Nat.le_of_ble_eq_true hn
        cases h
        have e : binVal .sub .i64 (v : Int) (n : Int) = (v : Int) - (n : Int) := IntWalk.i64_in _ ⟨by omega, by omega⟩
        rw [e]
        show ((x - n : Nat) : Int) ≤ _ ∧ _ ≤ ((y - n : Nat) : Int)
        omega
      · cases h
    · cases h
  · cases h
theorem ivShr_ok {ρ : Env} {op : BinOp} {k : IntKind} {a : SE} {x y : Int} {n : Nat} (h1 : x ≤ a.val ρ) (h2 : a.val ρ ≤ y) {r : Int × Int} (h : ivShr op k x y n = some r) :
    r.1 ≤ binVal op k (a.val ρ) (n : Int) ∧ binVal op k (a.val ρ) (n : Int) ≤ r.2 := by
  unfold ivShr at h
  split at h
  · split at h
    · split at h
      · rename_i hn
        have hn := Nat.le_of_ble_eq_true hn
        cases h
        have e : binVal .shr .i64 (a.val ρ) (n : Int) = (a.val ρ) / ((2 ^ n : Nat) : Int) := by
          show Int.fdiv (a.val ρ) (2 ^ (min (n : Int).toNat IntKind.i64.bits)) = _
          have e : min (n : Int).toNat IntKind.i64.bits = n := by
            have : IntKind.i64.bits = 64 := rfl
            omega
          rw [e, Int.fdiv_eq_ediv_of_nonneg _ (by exact_mod_cast Nat.zero_le _)]
          norm_cast
        have hp : (0 : Int) < ((2 ^ n : Nat) : Int) := by exact_mod_cast Nat.two_pow_pos n
        rw [e]
        exact ⟨Int.ediv_le_ediv hp h1, Int.ediv_le_ediv hp h2⟩
      · cases h
    · cases h
  · cases h
theorem u64_in (v : Int) (h0 : 0 ≤ v) (h1 : v ≤ 4611686018427387904) : IntKind.u64.wrap v = v := by
  unfold IntKind.wrap
  simp [IntKind.signed, IntKind.bits]
  omega
theorem u32_in (v : Int) (h0 : 0 ≤ v) (h1 : v ≤ 4294967295) : IntKind.u32.wrap v = v := by
  unfold IntKind.wrap
  simp [IntKind.signed, IntKind.bits]
  omega
theorem ivConv_ok {k : IntKind} {x y v : Int} (h1 : x ≤ v) (h2 : v ≤ y) {r : Int × Int} (h : ivConv k x y = some r) : r.1 ≤ k.wrap v ∧ k.wrap v ≤ r.2 := by
  unfold ivConv at h
  simp only [iblt_eq] at h
  split at h
  · split at h
    · cases h
    · rename_i g1
      split at h
      · cases h
      · rename_i g2
        cases h
        simp only [decide_eq_false_iff_not] at g1 g2
        rw [IntWalk.i64_in v ⟨by omega, by omega⟩]
        exact ⟨h1, h2⟩
  · split at h
    · cases h
    · rename_i x
      split at h
      · cases h
      · rename_i y
        have h1 : (x : Int) ≤ v := h1
        have h2 : v ≤ (y : Int) := h2
        split at h
        · split at h
          · rename_i g
            have g := Nat.le_of_ble_eq_true g
            cases h
            rw [u64_in v (by omega) (by omega)]
            exact ⟨h1, h2⟩
          · cases h
        · split at h
          · rename_i g
            have g := Nat.le_of_ble_eq_true g
            cases h
            rw [u32_in v (by omega) (by omega)]
            exact ⟨h1, h2⟩
          · cases h
        · split at h
          · rename_i g
            have g := Nat.le_of_ble_eq_true g
            cases h
            have e : IntKind.i32.wrap v = v := by
              unfold IntKind.wrap
              simp [IntKind.signed, IntKind.bits]
              omega
            rw [e]
            exact ⟨h1, h2⟩
          · split at h
            · rename_i g1
              have g1 := Nat.le_of_ble_eq_true g1
              split at h
              · rename_i g2
                have g2 := Nat.le_of_ble_eq_true g2
                cases h
                have e : IntKind.i32.wrap v = v - 4294967296 := by
                  unfold IntKind.wrap
                  simp [IntKind.signed, IntKind.bits]
                  omega
                rw [e]
                show (x : Int) - 4294967296 ≤ _ ∧ _ ≤ (y : Int) - 4294967296
                omega
              · cases h
            · cases h
        · cases h
theorem ivLit_ok {ρ : Env} {op : BinOp} {k : IntKind} {a b : SE} {t : Option (Int × Int)} (ht : ∀ r, t = some r → r.1 ≤ b.val ρ ∧ b.val ρ ≤ r.2) {r : Int × Int} (h : ivLit op k a t = some r) : r.1 ≤ (SE.bin op k a b).val ρ ∧ (SE.bin op k a b).val ρ ≤ r.2 := by
  unfold ivLit at h
  split at h
  · split at h
    · split at h
      · rename_i n
        split at h
        · rename_i x y
          split at h
          · rename_i hy
            have hy : n + y ≤ 4611686018427387904 := Nat.le_of_ble_eq_true hy
            cases h
            obtain ⟨q1, q2⟩ := ht _ rfl
            have q1 : (x : Int) ≤ b.val ρ := q1
            have q2 : b.val ρ ≤ (y : Int) := q2
            have e : (SE.bin .add .i64 (.lit (.ofNat n)) b).val ρ = (n : Int) + b.val ρ := IntWalk.i64_in _ ⟨by show _ ≤ (n : Int) + b.val ρ; omega, by show (n : Int) + b.val ρ ≤ _; omega⟩
            rw [e]
            show ((n + x : Nat) : Int) ≤ _ ∧ _ ≤ ((n + y : Nat) : Int)
            omega
          · cases h
        · cases h
      · cases h
    · cases h
  · cases h
theorem ivKind_ok {k : IntKind} {r : Int × Int} (h : ivKind k = some r) (v : Int) : r.1 ≤ k.wrap v ∧ k.wrap v ≤ r.2 := by
  unfold ivKind at h
  split at h
  case h_5 => cases h
  all_goals
    cases h
    unfold IntKind.wrap
    simp [IntKind.signed, IntKind.bits]
    omega
theorem ivElse_ok {k : IntKind} {t : Option (Int × Int)} {v : Int} (ht : ∀ r, t = some r → r.1 ≤ k.wrap v ∧ k.wrap v ≤ r.2) {r : Int × Int} (h : ivElse k t = some r) : r.1 ≤ k.wrap v ∧ k.wrap v ≤ r.2 := by
  unfold ivElse at h
  split at h
  · cases h; exact ht _ rfl
  · exact ivKind_ok h v
theorem ivOf_ok {ρ : Env} {l : List IV} (hl : ∀ c ∈ l, c.OK ρ) : ∀ (e : SE) {r : Int × Int}, ivOf l e = some r → r.1 ≤ e.val ρ ∧ e.val ρ ≤ r.2
  | .lit n, r, h => by
    simp only [ivOf, Option.some.injEq] at h
    subst h; exact ⟨Int.le_refl _, Int.le_refl _⟩
  | .var _, r, h => by simp [ivOf] at h
  | .conv k a, r, h => by
    simp only [ivOf] at h
    split at h
    · rename_i x y hxy
      obtain ⟨q1, q2⟩ := ivOf_ok hl a hxy
      exact ivElse_ok (fun r hr => ivConv_ok q1 q2 hr) h
    · exact ivKind_ok h _
  | .bin op k a b, r, h => by
    simp only [ivOf] at h
    split at h
    · rename_i r' hr
      cases h
      exact ivAt_ok hl hr
    · split at h
      · rename_i n _
        split at h
        · rename_i r' hr
          cases h
          unfold ivIn at hr
          split at hr
          · rename_i x y hxy
            obtain ⟨q1, q2⟩ := ivOf_ok hl a hxy
            split at hr
            · split at hr
              · split at hr
                · rename_i hy
                  have hy := Nat.le_of_ble_eq_true hy
                  exact ivOp_ok q1 q2 hy hr
                · cases hr
              · cases hr
            · exact ivShr_ok q1 q2 hr
          · cases hr
        · unfold ivMask at h
          split at h
          · split at h
            · split at h
              · rename_i hn
                have hn := Nat.le_of_ble_eq_true hn
                cases h
                obtain ⟨v, h1, h2⟩ := mask_and (a.val ρ) n (by omega)
                show (0 : Int) ≤ binVal .and .i64 (a.val ρ) (n : Int) ∧ binVal .and .i64 (a.val ρ) (n : Int) ≤ (n : Int)
                rw [h2]; omega
              · cases h
            · cases h
          · cases h
      · exact ivLit_ok (fun r hr => ivOf_ok hl b hr) h

/-! ### Comparisons -/
noncomputable def ivCmp2 (op : BinOp) (a b c d : Int) : Option Bool :=
  match op with
  | .lss => match iblt b c with
    | true => some true
    | false => match iblt a d with
      | false => some false
      | true => none
  | .gtr => match iblt d a with
    | true => some true
    | false => match iblt c b with
      | false => some false
      | true => none
  | .leq => match iblt d a with
    | true => some false
    | false => match iblt c b with
      | false => some true
      | true => none
  | .geq => match iblt b c with
    | true => some false
    | false => match iblt a d with
      | false => some true
      | true => none
  | .eql => match iblt b c with
    | true => some false
    | false => match iblt d a with
      | true => some false
      | false => match iblt a d with
        | true => none
        | false => match iblt c b with
          | true => none
          | false => some true
  | .neq => match iblt b c with
    | true => some true
    | false => match iblt d a with
      | true => some true
      | false => match iblt a d with
        | true => none
        | false => match iblt c b with
          | true => none
          | false => some false
  | _ => none
noncomputable def ivCmp (l : List IV) (op : BinOp) (x y : SE) : Option Bool :=
  match ivOf l x with
  | some (a, b) => match ivOf l y with
    | some (c, d) => ivCmp2 op a b c d
    | none => none
  | none => none
theorem ivCmp2_ok {op : BinOp} {a b c d x y : Int} (h1 : a ≤ x) (h2 : x ≤ b) (h3 : c ≤ y) (h4 : y ≤ d) {r : Bool} (h : ivCmp2 op a b c d = some r) (P : Program) (w : World) : (Op.intCmp op x y).run P w = .ok (.bool r) w := by
  unfold ivCmp2 at h
  simp only [iblt_eq] at h
  split at h <;> first
    | (cases h; done)
    | (split at h <;> rename_i q1 <;> first
        | (cases h; simp only [decide_eq_true_eq] at q1; simp [Op.intCmp]; omega)
        | (split at h <;> rename_i q2 <;> first
            | (cases h; done)
            | (cases h; simp only [decide_eq_true_eq, decide_eq_false_iff_not] at q1 q2; simp [Op.intCmp]; omega)
            | (split at h <;> rename_i q3 <;> first
                | (cases h; done)
                | (split at h <;> rename_i q4 <;> first
                    | (cases h; done)
                    | (cases h; simp only [decide_eq_false_iff_not] at q1 q2 q3 q4; simp [Op.intCmp]; omega)))))
theorem ivCmp_ok {ρ : Env} {l : List IV} (hl : ∀ c ∈ l, c.OK ρ) {op : BinOp} {x y : SE} {r : Bool} (h : ivCmp l op x y = some r) (P : Program) (w : World) : (Op.intCmp op (x.val ρ) (y.val ρ)).run P w = .ok (.bool r) w := by
  unfold ivCmp at h
  split at h
  · rename_i a b hx
    split at h
    · rename_i c d hy
      obtain ⟨q1, q2⟩ := ivOf_ok hl x hx
      obtain ⟨q3, q4⟩ := ivOf_ok hl y hy
      exact ivCmp2_ok q1 q2 q3 q4 h P w
    · cases h
  · cases h

/-! ### One of two such numbers is no greater -/
noncomputable def isBits (i m : Nat) (e : SE) : Bool :=
  match e with
  | .bin .and .i64 (.var j) (.lit (.ofNat n)) => match Nat.beq i j with
    | true => Nat.beq m n
    | false => false
  | _ => false
theorem isBits_ok {i m : Nat} {e : SE} (h : isBits i m e = true) : e = .bin .and .i64 (.var i) (.lit (.ofNat m)) := by
  unfold isBits at h
  split at h
  · split at h
    · rename_i h1
      rw [Nat.eq_of_beq_eq_true h1, Nat.eq_of_beq_eq_true h]
    · cases h
  · cases h
/-- le: the i-th number's bits m are no greater than the j-th's. -/
structure RL : Type where
  i : Nat
  j : Nat
  m : Nat
  le : Bool
def RL.OK (ρ : Env) (c : RL) : Prop := decide (binVal .and .i64 (ρ c.i) (c.m : Int) ≤ binVal .and .i64 (ρ c.j) (c.m : Int)) = c.le
noncomputable def rlCmp (c : RL) (op : BinOp) (x y : SE) : Option Bool :=
  match isBits c.i c.m x with
  | true => match isBits c.j c.m y with
    | true => match op with
      | .leq => some c.le
      | .gtr => some (not c.le)
      | _ => none
    | false => none
  | false => match isBits c.j c.m x with
    | true => match isBits c.i c.m y with
      | true => match op with
        | .geq => some c.le
        | .lss => some (not c.le)
        | _ => none
      | false => none
    | false => none
theorem not_le_gt (X Y : Int) : decide (X > Y) = !decide (X ≤ Y) := by
  by_cases h : X ≤ Y
  · rw [decide_eq_true h, decide_eq_false (by omega)]; rfl
  · rw [decide_eq_false h, decide_eq_true (by omega)]; rfl
theorem rlCmp_ok {ρ : Env} {c : RL} (hc : c.OK ρ) {op : BinOp} {x y : SE} {r : Bool} (h : rlCmp c op x y = some r) (P : Program) (w : World) : (Op.intCmp op (x.val ρ) (y.val ρ)).run P w = .ok (.bool r) w := by
  have hc : decide (binVal .and .i64 (ρ c.i) (c.m : Int) ≤ binVal .and .i64 (ρ c.j) (c.m : Int)) = c.le := hc
  unfold rlCmp at h
  split at h
  · rename_i hx
    split at h
    · rename_i hy
      rw [isBits_ok hx, isBits_ok hy]
      show (Op.intCmp op (binVal .and .i64 (ρ c.i) (c.m : Int)) (binVal .and .i64 (ρ c.j) (c.m : Int))).run P w = _
      split at h <;> cases h
      · rw [← hc]; rfl
      · rw [← hc, ← not_le_gt]; rfl
    · cases h
  · split at h
    · rename_i hx
      split at h
      · rename_i hy
        rw [isBits_ok hx, isBits_ok hy]
        show (Op.intCmp op (binVal .and .i64 (ρ c.j) (c.m : Int)) (binVal .and .i64 (ρ c.i) (c.m : Int))).run P w = _
        split at h <;> cases h
        · rw [← hc]; rfl
        · rw [← hc, ← not_le_gt]; rfl
      · cases h
    · cases h
noncomputable def ivD (ext : FuncId → Option Ext) (f : FuncId) (l : List IV) (c : RL) : Dec :=
  ⟨fun op x y => match rlCmp c op x y with
    | some r => some r
    | none => ivCmp l op x y, fun e => e, plug1 f, ext, fun _ _ _ => none⟩
theorem ivD_ok {P : Program} {ρ : Env} (hmix : P.follows .mixedOrders = true) (hN : NoNG P) {ext : FuncId → Option Ext} (hx : ∀ f x, ext f = some x → Ext.OK P f x) {n : Nat} {f : FuncId} (h : lawB P (extD ext) n f [] = true) {l : List IV} (hl : ∀ c ∈ l, c.OK ρ) {c : RL} (hc : c.OK ρ) : (ivD ext f l c).OK P ρ := by
  have base := lawE_ok (ρ := ρ) hmix hN hx h (l := []) (fun c hc => by cases hc) (cls := [[]]) ⟨[], List.mem_cons_self, fun c hc => by cases hc⟩
  refine ⟨fun op x y r h => ?_, fun _ => rfl, base.plug, hx, fun _ _ _ _ _ h => by cases h⟩
  have h : (match rlCmp c op x y with
    | some r => some r
    | none => ivCmp l op x y) = some r := h
  split at h
  · rename_i r' hr
    cases h
    exact fun P w => rlCmp_ok hc hr P w
  · exact fun P w => ivCmp_ok hl h P w
end Vx

/-! Numbers that are alike modulo 2^32: sums of unknown numbers. -/
namespace Vx
open Go Go.RowKit

/-- A sum: a number, and so many times each of the unknown ones, in their row. -/
structure L4 : Type where
  c : Int
  l : List Int
def lv (ρ : Env) : Nat → List Int → Int
  | _, [] => 0
  | i, a :: r => a * ρ i + lv ρ (i + 1) r
def L4.val (ρ : Env) (x : L4) : Int := x.c + lv ρ 0 x.l
noncomputable def ladd : List Int → List Int → List Int
  | [], y => y
  | a :: x, y => match y with
    | [] => a :: x
    | b :: y => Int.add a b :: ladd x y
noncomputable def lmul (d : Int) : List Int → List Int
  | [] => []
  | a :: x => Int.mul a d :: lmul d x
noncomputable def lunit (i : Nat) : List Int := Nat.rec (motive := fun _ => List Int) [1] (fun _ ih => 0 :: ih) i
theorem lv_add (ρ : Env) : ∀ (x y : List Int) (i : Nat), lv ρ i (ladd x y) = lv ρ i x + lv ρ i y
  | [], y, i => by simp [ladd, lv]
  | a :: x, [], i => by simp [ladd, lv]
  | a :: x, b :: y, i => by
    have ih := lv_add ρ x y (i + 1)
    show (a + b) * ρ i + lv ρ (i + 1) (ladd x y) = (a * ρ i + lv ρ (i + 1) x) + (b * ρ i + lv ρ (i + 1) y)
    rw [ih, Int.add_mul]; omega
theorem lv_mul (ρ : Env) (d : Int) : ∀ (x : List Int) (i : Nat), lv ρ i (lmul d x) = lv ρ i x * d
  | [], i => by simp [lmul, lv]
  | a :: x, i => by
    have ih := lv_mul ρ d x (i + 1)
    show (a * d) * ρ i + lv ρ (i + 1) (lmul d x) = (a * ρ i + lv ρ (i + 1) x) * d
    rw [ih, Int.add_mul, Int.mul_right_comm a]
theorem lv_unit (ρ : Env) : ∀ (i k : Nat), lv ρ k (lunit i) = ρ (k + i)
  | 0, k => by show 1 * ρ k + 0 = ρ k; omega
  | i + 1, k => by
    have ih := lv_unit ρ i (k + 1)
    show 0 * ρ k + lv ρ (k + 1) (lunit i) = ρ (k + (i + 1))
    rw [ih, Int.zero_mul, Int.zero_add, show k + 1 + i = k + (i + 1) by omega]
noncomputable def l4add (x y : L4) : L4 := L4.rec (motive := fun _ => L4) (fun c l => L4.rec (motive := fun _ => L4) (fun d r => ⟨Int.add c d, ladd l r⟩) y) x
noncomputable def l4sub (x y : L4) : L4 := L4.rec (motive := fun _ => L4) (fun c l => L4.rec (motive := fun _ => L4) (fun d r => ⟨Int.sub c d, ladd l (lmul (-1) r)⟩) y) x
noncomputable def l4mul (x : L4) (d : Int) : L4 := L4.rec (motive := fun _ => L4) (fun c l => ⟨Int.mul c d, lmul d l⟩) x
theorem l4add_val (ρ : Env) (x y : L4) : (l4add x y).val ρ = x.val ρ + y.val ρ := by
  obtain ⟨c, l⟩ := x; obtain ⟨d, r⟩ := y
  show (c + d) + lv ρ 0 (ladd l r) = (c + lv ρ 0 l) + (d + lv ρ 0 r)
  rw [lv_add]; omega
theorem l4sub_val (ρ : Env) (x y : L4) : (l4sub x y).val ρ = x.val ρ - y.val ρ := by
  obtain ⟨c, l⟩ := x; obtain ⟨d, r⟩ := y
  show (c - d) + lv ρ 0 (ladd l (lmul (-1) r)) = (c + lv ρ 0 l) - (d + lv ρ 0 r)
  rw [lv_add, lv_mul]; omega
theorem l4mul_val (ρ : Env) (x : L4) (d : Int) : (l4mul x d).val ρ = x.val ρ * d := by
  obtain ⟨c, l⟩ := x
  show c * d + lv ρ 0 (lmul d l) = (c + lv ρ 0 l) * d
  rw [lv_mul, Int.add_mul]
/-- A kind of 32 bits or more. -/
noncomputable def wideK (k : IntKind) : Bool :=
  match k with
  | .i32 => true
  | .u32 => true
  | .i64 => true
  | .u64 => true
  | _ => false
noncomputable def lin (e : SE) : Option L4 :=
  match e with
  | .lit n => some ⟨n, []⟩
  | .var i => some ⟨0, lunit i⟩
  | .conv k a => match wideK k with
    | true => lin a
    | false => none
  | .bin op k a b => match wideK k with
    | false => none
    | true => match op with
      | .add => match lin a with
        | some x => match lin b with
          | some y => some (l4add x y)
          | none => none
        | none => none
      | .sub => match lin a with
        | some x => match lin b with
          | some y => some (l4sub x y)
          | none => none
        | none => none
      | .mul => match b with
        | .lit n => match lin a with
          | some x => some (l4mul x n)
          | none => none
        | _ => none
      | .and => match k with
        | .i64 => match b with
          | .lit (.ofNat m) => match Nat.beq m 4294967295 with
            | true => lin a
            | false => none
          | _ => none
        | _ => none
      | _ => none
def Cg (x y : Int) : Prop := ∃ q : Int, x = y + 4294967296 * q
theorem Cg.refl (x : Int) : Cg x x := ⟨0, by omega⟩
theorem Cg.trans {x y z : Int} (h : Cg x y) (h' : Cg y z) : Cg x z := by
  obtain ⟨p, hp⟩ := h; obtain ⟨q, hq⟩ := h'; exact ⟨p + q, by omega⟩
theorem Cg.symm {x y : Int} (h : Cg x y) : Cg y x := by obtain ⟨p, hp⟩ := h; exact ⟨-p, by omega⟩
theorem Cg.add {x y u v : Int} (h : Cg x y) (h' : Cg u v) : Cg (x + u) (y + v) := by
  obtain ⟨p, hp⟩ := h; obtain ⟨q, hq⟩ := h'; exact ⟨p + q, by omega⟩
theorem Cg.sub {x y u v : Int} (h : Cg x y) (h' : Cg u v) : Cg (x - u) (y - v) := by
  obtain ⟨p, hp⟩ := h; obtain ⟨q, hq⟩ := h'; exact ⟨p - q, by omega⟩
theorem Cg.mul {x y : Int} (h : Cg x y) (n : Int) : Cg (x * n) (y * n) := by
  obtain ⟨p, hp⟩ := h
  exact ⟨p * n, by rw [hp, Int.add_mul, Int.mul_assoc]⟩
theorem wrap_cg {k : IntKind} (hk : wideK k = true) (x : Int) : Cg (k.wrap x) x := by
  cases k with
  | i32 =>
    by_cases hc : 2147483648 ≤ x % 4294967296
    · exact ⟨-(x / 4294967296) - 1, by unfold IntKind.wrap; simp [IntKind.signed, IntKind.bits, hc]; omega⟩
    · exact ⟨-(x / 4294967296), by unfold IntKind.wrap; simp [IntKind.signed, IntKind.bits, hc]; omega⟩
  | u32 => exact ⟨-(x / 4294967296), by unfold IntKind.wrap; simp [IntKind.signed, IntKind.bits]; omega⟩
  | i64 =>
    by_cases hc : 9223372036854775808 ≤ x % 18446744073709551616
    · exact ⟨-(x / 18446744073709551616 * 4294967296) - 4294967296, by unfold IntKind.wrap; simp [IntKind.signed, IntKind.bits, hc]; omega⟩
    · exact ⟨-(x / 18446744073709551616 * 4294967296), by unfold IntKind.wrap; simp [IntKind.signed, IntKind.bits, hc]; omega⟩
  | u64 => exact ⟨-(x / 18446744073709551616 * 4294967296), by unfold IntKind.wrap; simp [IntKind.signed, IntKind.bits]; omega⟩
  | _ => cases hk
theorem and_cg (x : Int) : Cg (binVal .and .i64 x ((4294967295 : Nat) : Int)) x := by
  have h1 : ((BitVec.ofInt 64 x) &&& (BitVec.ofInt 64 ((4294967295 : Nat) : Int))).toNat = (x % 18446744073709551616).toNat % 4294967296 := by
    rw [BitVec.toNat_and, BitVec.toNat_ofInt, BitVec.toNat_ofInt]
    have e2 : (((4294967295 : Nat) : Int) % ((2 ^ 64 : Nat) : Int)).toNat = 2 ^ 32 - 1 := by decide
    rw [e2, Nat.and_two_pow_sub_one_eq_mod]
    rfl
  refine (wrap_cg (k := .i64) rfl _).trans ?_
  show Cg ((((BitVec.ofInt 64 x) &&& (BitVec.ofInt 64 ((4294967295 : Nat) : Int))).toNat : Nat) : Int) x
  rw [h1]
  have h0 : 0 ≤ x % 18446744073709551616 := Int.emod_nonneg _ (by decide)
  refine ⟨-(x / 18446744073709551616 * 4294967296 + (x % 18446744073709551616) / 4294967296), ?_⟩
  omega
theorem lin_ok {ρ : Env} : ∀ (e : SE) {l : L4}, lin e = some l → Cg (e.val ρ) (l.val ρ)
  | .lit n, l, h => by
    simp only [lin, Option.some.injEq] at h
    subst h
    have e : (L4.mk n []).val ρ = n := by simp [L4.val, lv]
    rw [e]; exact Cg.refl _
  | .var i, l, h => by
    simp only [lin, Option.some.injEq] at h
    subst h
    have e : (L4.mk 0 (lunit i)).val ρ = ρ i := by
      show 0 + lv ρ 0 (lunit i) = ρ i
      rw [lv_unit, Nat.zero_add, Int.zero_add]
    rw [e]; exact Cg.refl _
  | .conv k a, l, h => by
    simp only [lin] at h
    split at h
    · rename_i hk
      exact (wrap_cg hk _).trans (lin_ok a h)
    · cases h
  | .bin op k a b, l, h => by
    simp only [lin] at h
    split at h
    · cases h
    · rename_i hk
      split at h
      · split at h
        · rename_i x hx
          split at h
          · rename_i y hy
            cases h
            have e := l4add_val ρ x y
            rw [e]
            exact (wrap_cg hk _).trans ((lin_ok a hx).add (lin_ok b hy))
          · cases h
        · cases h
      · split at h
        · rename_i x hx
          split at h
          · rename_i y hy
            cases h
            have e := l4sub_val ρ x y
            rw [e]
            exact (wrap_cg hk _).trans ((lin_ok a hx).sub (lin_ok b hy))
          · cases h
        · cases h
      · split at h
        · rename_i n
          split at h
          · rename_i x hx
            cases h
            have e := l4mul_val ρ x n
            rw [e]
            exact (wrap_cg hk _).trans ((lin_ok a hx).mul n)
          · cases h
        · cases h
      · split at h
        · split at h
          · split at h
            · rename_i hm
              have hm := Nat.eq_of_beq_eq_true hm
              subst hm
              exact (and_cg _).trans (lin_ok a h)
            · cases h
          · cases h
        · cases h
      · cases h
/-- A number from 0 to 2^32 - 1. -/
noncomputable def isU32 (e : SE) : Bool :=
  match e with
  | .lit (.ofNat n) => Nat.ble n 4294967295
  | .conv k a => match k with
    | .u32 => true
    | .i64 => isU32 a
    | .u64 => isU32 a
    | _ => false
  | .bin op k _ b => match k with
    | .u32 => wraps op
    | .i64 => match op with
      | .and => match b with
        | .lit (.ofNat m) => Nat.ble m 4294967295
        | _ => false
      | _ => false
    | _ => false
  | _ => false
theorem wrap_u32 (x : Int) : 0 ≤ IntKind.u32.wrap x ∧ IntKind.u32.wrap x < 4294967296 := by
  unfold IntKind.wrap
  simp [IntKind.signed, IntKind.bits]
  omega
theorem and_le (x : Int) (m : Nat) (hm : m ≤ 4611686018427387904) : 0 ≤ binVal .and .i64 x (m : Int) ∧ binVal .and .i64 x (m : Int) ≤ (m : Int) := by
  obtain ⟨v, h1, h2⟩ := mask_and x m (by omega)
  rw [h2]; omega
theorem isU32_ok {ρ : Env} : ∀ (e : SE), isU32 e = true → 0 ≤ e.val ρ ∧ e.val ρ < 4294967296
  | .lit n, h => by
    cases n with
    | ofNat n =>
      have := Nat.le_of_ble_eq_true h
      have e : (SE.lit (Int.ofNat n)).val ρ = (n : Int) := rfl
      omega
    | negSucc n => cases h
  | .var i, h => by cases h
  | .conv k a, h => by
    simp only [isU32] at h
    split at h
    · exact wrap_u32 _
    · have ih := isU32_ok a h (ρ := ρ)
      have e : (SE.conv .i64 a).val ρ = a.val ρ := IntWalk.i64_in _ ⟨by omega, by omega⟩
      rw [e]; exact ih
    · have ih := isU32_ok a h (ρ := ρ)
      have e : (SE.conv .u64 a).val ρ = a.val ρ := u64_in _ (by omega) (by omega)
      rw [e]; exact ih
    · cases h
  | .bin op k a b, h => by
    simp only [isU32] at h
    split at h
    · unfold wraps at h
      split at h <;> first | (exact wrap_u32 _) | (cases h)
    · split at h
      · split at h
        · rename_i m
          have hm := Nat.le_of_ble_eq_true h
          have := and_le (a.val ρ) m (by omega)
          have e : (SE.bin .and .i64 a (.lit (Int.ofNat m))).val ρ = binVal .and .i64 (a.val ρ) (m : Int) := rfl
          rw [e]; omega
        · cases h
      · cases h
    · cases h
noncomputable def modEq (x y : Int) : Bool := ibeq (Int.emod (Int.sub x y) 4294967296) 0
theorem modEq_ok {x y : Int} (h : modEq x y = true) : Cg x y := by
  unfold modEq at h
  rw [ibeq_eq] at h
  have h : (x - y) % 4294967296 = 0 := eq_of_beq h
  exact ⟨(x - y) / 4294967296, by omega⟩
noncomputable def lz : List Int → Bool
  | [] => true
  | a :: r => match modEq a 0 with
    | true => lz r
    | false => false
theorem lz_ok (ρ : Env) : ∀ {l : List Int} {i : Nat}, lz l = true → Cg (lv ρ i l) 0
  | [], i, _ => Cg.refl _
  | a :: r, i, h => by
    simp only [lz] at h
    split at h
    · rename_i h1
      have h2 := (modEq_ok h1).mul (ρ i)
      have h3 := h2.add (lz_ok ρ (i := i + 1) h)
      show Cg (a * ρ i + lv ρ (i + 1) r) 0
      simpa using h3
    · cases h
noncomputable def l4z (x : L4) : Bool := L4.rec (motive := fun _ => Bool) (fun c l => and (modEq c 0) (lz l)) x
noncomputable def l4eq (x y : L4) : Bool := l4z (l4sub x y)
theorem l4z_ok {x : L4} (h : l4z x = true) (ρ : Env) : Cg (x.val ρ) 0 := by
  obtain ⟨c, l⟩ := x
  have h : and (modEq c 0) (lz l) = true := h
  simp only [Bool.and_eq_true] at h
  have := (modEq_ok h.1).add (lz_ok ρ (i := 0) h.2)
  show Cg (c + lv ρ 0 l) 0
  simpa using this
theorem l4eq_ok {x y : L4} (h : l4eq x y = true) (ρ : Env) : Cg (x.val ρ) (y.val ρ) := by
  obtain ⟨q, hq⟩ := l4z_ok h ρ
  rw [l4sub_val] at hq
  exact ⟨q, by omega⟩
noncomputable def linSame (x y : SE) : Bool :=
  match isU32 x with
  | true => match isU32 y with
    | true => match lin x with
      | some a => match lin y with
        | some b => l4eq a b
        | none => false
      | none => false
    | false => false
  | false => false
theorem linSame_ok {x y : SE} (h : linSame x y = true) (ρ : Env) : x.val ρ = y.val ρ := by
  unfold linSame at h
  split at h
  · rename_i hx
    split at h
    · rename_i hy
      split at h
      · rename_i a ha
        split at h
        · rename_i b hb
          have h1 := isU32_ok (ρ := ρ) x hx
          have h2 := isU32_ok (ρ := ρ) y hy
          obtain ⟨q, hq⟩ := ((lin_ok (ρ := ρ) x ha).trans (l4eq_ok h ρ)).trans (lin_ok (ρ := ρ) y hb).symm
          omega
        · cases h
      · cases h
    · cases h
  · cases h
noncomputable def linCmp (op : BinOp) (x y : SE) : Option Bool :=
  match op with
  | .eql => match linSame x y with
    | true => some true
    | false => none
  | .neq => match linSame x y with
    | true => some false
    | false => none
  | _ => none
theorem linCmp_ok {ρ : Env} {op : BinOp} {x y : SE} {r : Bool} (h : linCmp op x y = some r) (P : Program) (w : World) : (Op.intCmp op (x.val ρ) (y.val ρ)).run P w = .ok (.bool r) w := by
  unfold linCmp at h
  split at h
  · split at h
    · rename_i hs
      cases h
      rw [linSame_ok hs ρ]
      simp [Op.intCmp]
    · cases h
  · split at h
    · rename_i hs
      cases h
      rw [linSame_ok hs ρ]
      simp [Op.intCmp]
    · cases h
  · cases h
noncomputable def wCmp (l : List IV) (op : BinOp) (x y : SE) : Option Bool :=
  match ivCmp l op x y with
  | some r => some r
  | none => linCmp op x y
/-- Bounds, sums; bits that are known. -/
noncomputable def wD (ext : FuncId → Option Ext) (f : FuncId) (l : List IV) (m : List MK) : Dec := ⟨wCmp l, redL m, plug1 f, ext, fun _ _ _ => none⟩
theorem wD_ok {P : Program} {ρ : Env} (hmix : P.follows .mixedOrders = true) (hN : NoNG P) {ext : FuncId → Option Ext} (hx : ∀ f x, ext f = some x → Ext.OK P f x) {n : Nat} {f : FuncId} (h : lawB P (extD ext) n f [] = true) {l : List IV} (hl : ∀ c ∈ l, c.OK ρ) {m : List MK} (hm : ∀ c ∈ m, c.OK ρ) : (wD ext f l m).OK P ρ := by
  have base := lawE_ok (ρ := ρ) hmix hN hx h (l := []) (fun c hc => by cases hc) (cls := [[]]) ⟨[], List.mem_cons_self, fun c hc => by cases hc⟩
  refine ⟨fun op x y r h => ?_, redL_ok hm, base.plug, hx, fun _ _ _ _ _ h => by cases h⟩
  have h : (match ivCmp l op x y with
    | some r => some r
    | none => linCmp op x y) = some r := h
  split at h
  · rename_i r' hr
    cases h
    exact fun P w => ivCmp_ok hl hr P w
  · exact fun P w => linCmp_ok h P w
end Vx

/-! Laws that are run by the machine made ready. -/
namespace Vx
open Go Go.RowKit
section
variable {P : Program} {ρ : Env}
theorem plugZ_ok (hmix : P.follows .mixedOrders = true) (hN : NoNG P) {ext : FuncId → Option Ext} (hx : ∀ f x, ext f = some x → Ext.OK P f x) {n : Nat} {f : FuncId} (h : lawZ P (extD ext) n f [] = true) :
    ∀ g args v, plug1 f g args = some v → ∀ args', VRs (fun _ => none) ρ args args' → ∀ (w : World) (c : Frame) (cs : List Frame), ∃ v' w', VR (fun _ => none) ρ v v' ∧ Fr ⟨fun b => b < w.heap.size, fun _ => False⟩ w w' ∧
      Steps P (lone (Frame.enter P g args'.toArray .normal) (c :: cs) w) (lone (c.finish v') cs w') := by
  intro g args v hv args' ha w c cs
  obtain ⟨rfl, rfl, rfl⟩ := plug1_inv hv
  rw [lawZ_eq] at h
  obtain ⟨g0, H', hg0, hr⟩ := lawY_inv h
  cases ha
  obtain ⟨g1, _⟩ := enter_ok (μ := fun _ => none) (ρ := ⟨ρ.num, 0, 0, 0, ρ.str⟩) hg0 .nil
  obtain ⟨v', w', μ', r1, r2, r3, r4, r5⟩ := (runYS_ok hmix (extD_ok ⟨ρ.num, 0, 0, 0, ρ.str⟩ hx) hN n).ret (G := ⟨fun b => b < w.heap.size, fun _ => False⟩) (c := c) (cs' := cs) ⟨g1, ⟨[], rfl, .nil⟩, GR.empty w (.none _ rfl w)⟩ hr
  exact ⟨v', w', by cases r2; exact .bool, r4, r5⟩
theorem wZ_ok (hmix : P.follows .mixedOrders = true) (hN : NoNG P) {ext : FuncId → Option Ext} (hx : ∀ f x, ext f = some x → Ext.OK P f x) {n : Nat} {f : FuncId} (h : lawZ P (extD ext) n f [] = true) {l : List IV} (hl : ∀ c ∈ l, c.OK ρ) {m : List MK} (hm : ∀ c ∈ m, c.OK ρ) : (wD ext f l m).OK P ρ := by
  refine ⟨fun op x y r h => ?_, redL_ok hm, plugZ_ok hmix hN hx h, hx, fun _ _ _ _ _ h => by cases h⟩
  have h : (match ivCmp l op x y with
    | some r => some r
    | none => linCmp op x y) = some r := h
  split at h
  · rename_i r' hr
    cases h
    exact fun P w => ivCmp_ok hl hr P w
  · exact fun P w => linCmp_ok h P w
end
end Vx

/-! Comparisons that are known. -/
namespace Vx
open Go Go.RowKit

/-- What a comparison of an unknown number with a known one comes to (sw: the known one is the first). -/
structure CK : Type where
  sw : Bool
  op : BinOp
  i : Nat
  n : Int
  r : Bool
def CK.OK (ρ : Env) (c : CK) : Prop := ∀ (P : Program) (w : World), (Op.intCmp c.op (bif c.sw then c.n else ρ c.i) (bif c.sw then ρ c.i else c.n)).run P w = .ok (.bool c.r) w
noncomputable def ckOp (a b : BinOp) : Bool := Nat.beq a.ctorIdx b.ctorIdx
theorem ckOp_eq {a b : BinOp} (h : ckOp a b = true) : a = b := by
  cases a <;> cases b <;> first | rfl | (exact absurd h (by decide))
noncomputable def ckHit (c : CK) (op : BinOp) (j : Nat) (n : Int) : Bool :=
  match ckOp c.op op with
  | true => match Nat.beq c.i j with
    | true => ibeq c.n n
    | false => false
  | false => false
noncomputable def ckFind (sw : Bool) (op : BinOp) (j : Nat) (n : Int) : List CK → Option Bool
  | [] => none
  | c :: r => match ckHit c op j n with
    | true => match c.sw with
      | true => match sw with
        | true => some c.r
        | false => ckFind sw op j n r
      | false => match sw with
        | true => ckFind sw op j n r
        | false => some c.r
    | false => ckFind sw op j n r
noncomputable def ckCmp (l : List CK) (op : BinOp) (x y : SE) : Option Bool :=
  match x with
  | .var j => match y with
    | .lit n => ckFind false op j n l
    | _ => none
  | .lit n => match y with
    | .var j => ckFind true op j n l
    | _ => none
  | _ => none
theorem ckHit_ok {c : CK} {op : BinOp} {j : Nat} {n : Int} (h : ckHit c op j n = true) : c.op = op ∧ c.i = j ∧ c.n = n := by
  unfold ckHit at h
  split at h
  · rename_i h1
    split at h
    · rename_i h2
      rw [ibeq_eq] at h
      exact ⟨ckOp_eq h1, Nat.eq_of_beq_eq_true h2, eq_of_beq h⟩
    · cases h
  · cases h
theorem ckFind_ok {ρ : Env} {sw : Bool} {op : BinOp} {j : Nat} {n : Int} : ∀ {l : List CK}, (∀ c ∈ l, c.OK ρ) → ∀ {r : Bool}, ckFind sw op j n l = some r → ∀ (P : Program) (w : World), (Op.intCmp op (bif sw then n else ρ j) (bif sw then ρ j else n)).run P w = .ok (.bool r) w
  | [], _, r, h => by simp [ckFind] at h
  | c :: l, hl, r, h => by
    have ih : ∀ {r : Bool}, ckFind sw op j n l = some r → ∀ (P : Program) (w : World), (Op.intCmp op (bif sw then n else ρ j) (bif sw then ρ j else n)).run P w = .ok (.bool r) w := ckFind_ok (l := l) fun c' hc => hl c' (List.mem_cons_of_mem _ hc)
    have hc := hl c List.mem_cons_self
    simp only [ckFind] at h
    split at h
    · rename_i h1
      obtain ⟨e1, e2, e3⟩ := ckHit_ok h1
      subst e1; subst e2; subst e3
      split at h
      · rename_i g
        split at h
        · cases h
          intro P w
          have := hc P w
          rw [g] at this; exact this
        · exact ih h
      · rename_i g
        split at h
        · exact ih h
        · cases h
          intro P w
          have := hc P w
          rw [g] at this; exact this
    · exact ih h
theorem ckCmp_ok {ρ : Env} {l : List CK} (hl : ∀ c ∈ l, c.OK ρ) {op : BinOp} {x y : SE} {r : Bool} (h : ckCmp l op x y = some r) (P : Program) (w : World) : (Op.intCmp op (x.val ρ) (y.val ρ)).run P w = .ok (.bool r) w := by
  unfold ckCmp at h
  split at h
  · split at h
    · exact ckFind_ok hl h P w
    · cases h
  · split at h
    · exact ckFind_ok hl h P w
    · cases h
  · cases h
/-- Known comparisons, bounds, sums; bits that are known. -/
noncomputable def kD (ext : FuncId → Option Ext) (f : FuncId) (l : List IV) (k : List CK) (m : List MK) : Dec := ⟨fun op x y => match ckCmp k op x y with
  | some r => some r
  | none => wCmp l op x y, redL m, plug1 f, ext, fun _ _ _ => none⟩
section
variable {P : Program} {ρ : Env}
theorem kZ_ok (hmix : P.follows .mixedOrders = true) (hN : NoNG P) {ext : FuncId → Option Ext} (hx : ∀ f x, ext f = some x → Ext.OK P f x) {n : Nat} {f : FuncId} (h : lawZ P (extD ext) n f [] = true) {l : List IV} (hl : ∀ c ∈ l, c.OK ρ) {k : List CK} (hk : ∀ c ∈ k, c.OK ρ) {m : List MK} (hm : ∀ c ∈ m, c.OK ρ) : (kD ext f l k m).OK P ρ := by
  have base := wZ_ok hmix hN hx h hl hm
  refine ⟨fun op x y r h => ?_, base.red, base.plug, hx, fun _ _ _ _ _ h => by cases h⟩
  have h : (match ckCmp k op x y with
    | some r => some r
    | none => wCmp l op x y) = some r := h
  split at h
  · rename_i r' hr
    cases h
    exact fun P w => ckCmp_ok hk hr P w
  · exact base.cmp op x y r h
end
theorem cks_nil {ρ : Env} : ∀ c ∈ ([] : List CK), c.OK ρ := fun c hc => by cases hc
theorem cks_cons {ρ : Env} {c : CK} {l : List CK} (h : c.OK ρ) (hs : ∀ c ∈ l, c.OK ρ) : ∀ x ∈ c :: l, x.OK ρ := fun x hx => by
  rcases List.mem_cons.1 hx with rfl | hx
  · exact h
  · exact hs x hx
end Vx
