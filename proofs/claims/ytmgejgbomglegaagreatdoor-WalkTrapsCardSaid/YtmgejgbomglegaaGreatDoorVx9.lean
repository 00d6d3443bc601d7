/-
  copy; operators; conversions; interfaces.
-/
import Derived.Test.YtmgejgbomglegaaGreatDoorVxU
import Derived.Laws.Externs
import Derived.Laws.StructEq
import Derived.Laws.Cover3
import Derived.Laws.Pointers
namespace Vx
open Go
section
variable {P : Program} {G : Gd} {μ : Mu} {ρ : Nat → Int} {H : Heap} {w : World}

/-! ### copy -/
noncomputable def copyA (P : Program) (H : Heap) (ats : List TypeId) (dst src : AV) : Option (AV × Heap) :=
  match nth ats 0 with
  | some t => match P.underlying t with
    | some (.slice e) => match P.info? e with
      | some ie => match dst with
        | .sl kd od ld _ _ => match src with
          | .sl k o len _ _ => match H.tr.get k with
            | some (.cells c d m _) => match Nat.ble (Nat.add o (Nat.mul (Nat.min len ld) ie.size)) m with
              | true => match storeCellsA H kd od (cellsFrom c d o (Nat.mul (Nat.min len ld) ie.size)) with
                | some H' => some (.int .i64 (.lit (Int.ofNat (Nat.min len ld))), H')
                | none => none
              | false => none
            | _ => none
          | .nils => some (.int .i64 (.lit (Int.ofNat 0)), H)
          | _ => none
        | _ => none
      | none => none
    | _ => none
  | none => none
theorem copy_ok (hG : GR G μ ρ H w) {ats : Array TypeId} {ty : TypeId} {x y : AV} {x' y' : Value} (hx : VR μ ρ x x') (hy : VR μ ρ y y') {v : AV} {H' : Heap} (h : copyA P H ats.toList x y = some (v, H')) :
    ValOK P G μ ρ (Builtin.copy_ ats ty #[x', y']) w v H' := by
  unfold copyA at h
  split at h
  · rename_i t ht
    rw [nth_eq] at ht
    have ht' : ats[0]? = some t := by simpa using ht
    split at h
    · rename_i e hu
      cases hie : P.info? e with
      | none => simp [hie] at h
      | some ie =>
        simp only [hie] at h
        split at h
        · rename_i kd od ld capd eszd
          cases hx with
          | @sl _ _ _ _ _ bd nd capd' hbd _ _ _ =>
          split at h
          · rename_i k o len cap esz
            cases hy with
            | @sl _ _ _ _ _ b n cap' hb _ _ _ =>
            split at h
            · rename_i c d m e0 hk
              split at h
              · rename_i hle
                split at h
                · rename_i H2 hst
                  cases h
                  obtain ⟨cs, hl, hc, hr⟩ := cells_at hG hk hb o (Nat.min len ld * ie.size) (Nat.le_of_ble_eq_true hle)
                  obtain ⟨w', q1, q2, q3⟩ := storeCellsA_ok (P := P) hbd _ cs H w od 0 ⟨bd, od, none⟩ _ hG hr hst rfl rfl (Nat.zero_le _)
                  have hf := run_firstCells_some (P := P) w ie.size (Nat.min len ld) ⟨b, o, none⟩ len cap' cs hl (fun j v hv => by rw [addr_add]; exact hc j v hv)
                  refine ⟨_, w', μ, ?_, Mu.le_refl _, .int rfl, q2, q3⟩
                  simp [Builtin.copy_, ht', run_underlying hu, Go.sizeOf, typeInfo, hie, Builtin.lenOf, hf, q1, goInt, SE.val]
                · cases h
              · cases h
            · cases h
          · cases h
            cases hy
            refine ValOK.pure hG (v' := .int .i64 0) ?_ (.int rfl)
            simp [Builtin.copy_, ht', run_underlying hu, Go.sizeOf, typeInfo, hie, Builtin.lenOf, Builtin.firstCells, storeCells, goInt]
          · cases h
        · cases h
    · cases h
  · cases h

/-! ### Operators on whole numbers -/
noncomputable def kindB (k k' : IntKind) : Bool := Nat.beq k.ctorIdx k'.ctorIdx
theorem kindB_eq {k k' : IntKind} (h : kindB k k' = true) : k = k' := by
  cases k <;> cases k' <;> first | rfl | (exact absurd h (by decide))
/-- As binVal, quicker where the numbers are not below zero. -/
noncomputable def binF (op : BinOp) (k : IntKind) (x y : Int) : Int :=
  match op with
  | .add => wrapF k (Int.add x y)
  | .sub => wrapF k (Int.sub x y)
  | .mul => wrapF k (Int.mul x y)
  | .and => match k with
    | .i64 => match x with
      | .ofNat m => match y with
        | .ofNat n => match Nat.ble n 9223372036854775807 with
          | true => Int.ofNat (Nat.land m n)
          | false => binVal .and .i64 x y
        | _ => binVal .and .i64 x y
      | _ => binVal .and .i64 x y
    | k => binVal .and k x y
  | .rem => match x with
    | .ofNat m => match y with
      | .ofNat n => Int.ofNat (Nat.mod m n)
      | _ => binVal .rem k x y
    | _ => binVal .rem k x y
  | op => binVal op k x y
theorem land_i64 (m n : Nat) (hn : n ≤ 9223372036854775807) : IntKind.i64.wrap (((BitVec.ofInt 64 (m : Int)) &&& (BitVec.ofInt 64 (n : Int))).toNat : Int) = ((m &&& n : Nat) : Int) := by
  have h1 : (m &&& n) ≤ n := Nat.and_le_right
  have h2 : ((BitVec.ofInt 64 (m : Int)) &&& (BitVec.ofInt 64 (n : Int))).toNat = m &&& n := by
    rw [BitVec.toNat_and, BitVec.toNat_ofInt, BitVec.toNat_ofInt]
    have e1 : ((m : Int) % ((2 ^ 64 : Nat) : Int)).toNat = m % 2 ^ 64 := by omega
    have e2 : ((n : Int) % ((2 ^ 64 : Nat) : Int)).toNat = n % 2 ^ 64 := by omega
    rw [e1, e2, ← Nat.and_mod_two_pow, Nat.mod_eq_of_lt (by omega)]
  rw [h2]
  exact IntWalk.i64_in _ ⟨by omega, by omega⟩
theorem binF_eq (op : BinOp) (k : IntKind) (x y : Int) : binF op k x y = binVal op k x y := by
  unfold binF
  split
  · rw [wrapF_eq]; rfl
  · rw [wrapF_eq]; rfl
  · rw [wrapF_eq]; rfl
  · split
    · split
      · split
        · split
          · rename_i hn
            exact (land_i64 _ _ (Nat.le_of_ble_eq_true hn)).symm
          · rfl
        · rfl
      · rfl
    · rfl
  · split
    · split
      · simp only [binVal]; rfl
      · rfl
    · rfl
  · rfl
/-- No number of a block is in it. -/
noncomputable def closedS (v : AV) : Bool :=
  match v with
  | .bool _ => true
  | .int .. => true
  | .float .. => true
  | .str _ => true
  | .ustr _ => true
  | .nilp => true
  | .nils => true
  | .nilm => true
  | .nilf => true
  | .nili => true
  | _ => false
noncomputable def closedL : List AV → Bool
  | [] => true
  | v :: r => match closedS v with
    | true => closedL r
    | false => false
theorem closedS_ok {μ μ' : Mu} {v : AV} {v' : Value} (h : closedS v = true) (hv : VR μ ρ v v') : VR μ' ρ v v' := by
  cases hv <;> first | (simp [closedS] at h; done) | (constructor; assumption) | (constructor; done)
theorem closedL_ok {μ μ' : Mu} : ∀ {l : List AV} {l' : List Value}, closedL l = true → VRs μ ρ l l' → VRs μ' ρ l l'
  | _, _, _, .nil => .nil
  | _, _, h, .cons hv hs => by
    simp only [closedL] at h
    split at h
    · rename_i h1; exact .cons (closedS_ok h1 hv) (closedL_ok h hs)
    · cases h
/-- Functions that have no body. -/
inductive Ext : Type where
  | same
  | noZero (t e : TypeId)
  | fn (F : List AV → Option AV)
def Ext.OK (P : Program) (f : FuncId) : Ext → Prop
  | .same => ∀ (v : Value) (w : World), (callFunc f #[v]).run P w = .ok (.value v) w
  | .noZero t e => P.underlying t = some (.slice e) ∧ ∃ ps, ∀ (args : Array Value) (w : World), (callFunc f args).run P w = ((Extern.BytealgMakeNoZero.makeNoZero ps #[t] args).run P w).andThen fun v w' => .ok (.value v) w'
  | .fn F => ∀ (l : List AV) (v : AV), F l = some v → ∀ (μ : Mu) (ρ : Nat → Int) (l' : List Value), VRs μ ρ l l' → ∀ (w : World), ∃ v', (callFunc f l'.toArray).run P w = .ok (.value v') w ∧ VR μ ρ v v'
/-- What is known from outside: comparisons of numbers that are not known; what such a number is; what a call comes to. -/
structure Dec : Type where
  cmp : BinOp → SE → SE → Option Bool
  red : SE → SE
  plug : FuncId → List AV → Option AV
  ext : FuncId → Option Ext
  hp : FuncId → List AV → Heap → Option (AV × Heap)
structure Dec.OK (D : Dec) (P : Program) (ρ : Nat → Int) : Prop where
  cmp : ∀ op x y r, D.cmp op x y = some r → ∀ (P : Program) (w : World), (Op.intCmp op (x.val ρ) (y.val ρ)).run P w = .ok (.bool r) w
  red : ∀ e, (D.red e).val ρ = e.val ρ
  plug : ∀ f args v, D.plug f args = some v → ∀ args', VRs (fun _ => none) ρ args args' → ∀ (w : World) (c : Frame) (cs : List Frame), ∃ v' w', VR (fun _ => none) ρ v v' ∧ Fr ⟨fun b => b < w.heap.size, fun _ => False⟩ w w' ∧
    Steps P (lone (Frame.enter P f args'.toArray .normal) (c :: cs) w) (lone (c.finish v') cs w')
  ext : ∀ f x, D.ext f = some x → Ext.OK P f x
  hp : ∀ f args H v H', D.hp f args H = some (v, H') → ∀ (G : Gd) (μ : Mu) (w : World) (args' : List Value), GR G μ ρ H w → VRs μ ρ args args' → ∀ (c : Frame) (cs : List Frame), ∃ v' w' μ', Mu.le μ μ' ∧ VR μ' ρ v v' ∧ GR G μ' ρ H' w' ∧ Fr G w w' ∧
    Steps P (lone (Frame.enter P f args'.toArray .normal) (c :: cs) w) (lone (c.finish v') cs w')
noncomputable def plugA (D : Dec) (f : FuncId) (args : List AV) : Option AV :=
  match D.plug f args with
  | none => none
  | some v => match closedL args with
    | true => some v
    | false => none
theorem plug_ok {D : Dec} {μ : Mu} (hD : D.OK P ρ) {f : FuncId} {args : List AV} {v : AV} (h : plugA D f args = some v) {args' : List Value} (ha : VRs μ ρ args args') (w : World) (c : Frame) (cs : List Frame) :
    ∃ v' w', VR μ ρ v v' ∧ Fr ⟨fun b => b < w.heap.size, fun _ => False⟩ w w' ∧ Steps P (lone (Frame.enter P f args'.toArray .normal) (c :: cs) w) (lone (c.finish v') cs w') := by
  unfold plugA at h
  split at h
  · cases h
  · rename_i u hu
    split at h
    · rename_i hc
      cases h
      obtain ⟨v', w', q1, q2, q3⟩ := hD.plug f args v hu args' (closedL_ok hc ha) w c cs
      exact ⟨v', w', q1.mono (fun _ _ h => by cases h), q2, q3⟩
    · cases h
noncomputable def arith (D : Dec) (op : BinOp) (k : IntKind) (x y : SE) : SE :=
  match x with
  | .lit a => match y with
    | .lit b => .lit (binF op k a b)
    | y => D.red (.bin op k (.lit a) y)
  | x => D.red (.bin op k x y)
theorem arith_val {D : Dec} (hD : D.OK P ρ) (op : BinOp) (k : IntKind) (x y : SE) : (arith D op k x y).val ρ = binVal op k (x.val ρ) (y.val ρ) := by
  unfold arith
  split
  · split
    · simp [SE.val, binF_eq]
    · rw [hD.red]; rfl
  · rw [hD.red]; rfl
/-- A number that is known and not zero. -/
noncomputable def notZ (y : SE) : Bool :=
  match y with
  | .lit n => match n with
    | .ofNat m => match m with
      | 0 => false
      | _ + 1 => true
    | .negSucc _ => true
  | _ => false
noncomputable def geZ (y : SE) : Bool :=
  match y with
  | .lit n => match n with
    | .ofNat _ => true
    | .negSucc _ => false
  | _ => false
noncomputable def cmpA (D : Dec) (op : BinOp) (x y : SE) : Option Bool :=
  match x with
  | .lit a => match y with
    | .lit b => match op with
      | .eql => some (ibeq a b)
      | .neq => some (not (ibeq a b))
      | .lss => some (iblt a b)
      | .leq => some (not (iblt b a))
      | .gtr => some (iblt b a)
      | .geq => some (not (iblt a b))
      | _ => none
    | y => D.cmp op (.lit a) y
  | x => D.cmp op x y
theorem le_not (a b : Int) : decide (a ≤ b) = !decide (b < a) := by by_cases hc : a ≤ b <;> simp [hc] <;> omega
theorem ge_not (a b : Int) : decide (a ≥ b) = !decide (a < b) := by by_cases hc : a ≥ b <;> simp [hc] <;> omega
theorem cmp_ok {D : Dec} (hD : D.OK P ρ) {op : BinOp} {x y : SE} {r : Bool} (h : cmpA D op x y = some r) : (Op.intCmp op (x.val ρ) (y.val ρ)).run P w = .ok (.bool r) w := by
  unfold cmpA at h
  split at h
  · split at h
    · simp only [SE.val]
      split at h <;> cases h
      · rw [ibeq_eq]; rfl
      · rw [ibeq_eq]; rfl
      · rw [iblt_eq]; rfl
      · rw [iblt_eq, ← le_not]; rfl
      · rw [iblt_eq]; rfl
      · rw [iblt_eq, ← ge_not]; rfl
    · exact hD.cmp _ _ _ _ h P w
  · exact hD.cmp _ _ _ _ h P w
/-- A number that is known not to be less than zero. -/
noncomputable def geD (D : Dec) (y : SE) : Bool :=
  match geZ y with
  | true => true
  | false => match y with
    | .lit _ => false
    | _ => match D.cmp .lss y (.lit 0) with
      | some false => true
      | _ => false
noncomputable def intBinA (D : Dec) (op : BinOp) (k : IntKind) (x : SE) (k' : IntKind) (y : SE) : Option AV :=
  match op with
  | .shl => match geD D y with
    | true => some (.int k (arith D .shl k x y))
    | false => none
  | .shr => match geD D y with
    | true => some (.int k (arith D .shr k x y))
    | false => none
  | .quo => match kindB k k' with
    | true => match notZ y with
      | true => some (.int k (arith D .quo k x y))
      | false => none
    | false => none
  | .rem => match kindB k k' with
    | true => match notZ y with
      | true => some (.int k (arith D .rem k x y))
      | false => none
    | false => none
  | .add => match kindB k k' with
    | true => some (.int k (arith D .add k x y))
    | false => none
  | .sub => match kindB k k' with
    | true => some (.int k (arith D .sub k x y))
    | false => none
  | .mul => match kindB k k' with
    | true => some (.int k (arith D .mul k x y))
    | false => none
  | .and => match kindB k k' with
    | true => some (.int k (arith D .and k x y))
    | false => none
  | .or => match kindB k k' with
    | true => some (.int k (arith D .or k x y))
    | false => none
  | .xor => match kindB k k' with
    | true => some (.int k (arith D .xor k x y))
    | false => none
  | .andNot => match kindB k k' with
    | true => some (.int k (arith D .andNot k x y))
    | false => none
  | op => match kindB k k' with
    | true => match cmpA D op x y with
      | some r => some (.bool r)
      | none => none
    | false => none
theorem intBin_ok {D : Dec} (hD : D.OK P ρ) {op : BinOp} {k k' : IntKind} {x y : SE} {v : AV} (h : intBinA D op k x k' y = some v) (t : TypeId) :
    ∃ v', (binOp op t (.int k (x.val ρ)) (.int k' (y.val ρ))).run P w = .ok v' w ∧ VR μ ρ v v' := by
  unfold intBinA at h
  have hz : ∀ {y : SE}, notZ y = true → y.val ρ ≠ 0 := fun {y} hy => by
    unfold notZ at hy
    split at hy
    · split at hy
      · split at hy
        · cases hy
        · simp [SE.val]; omega
      · simp [SE.val]
    · cases hy
  have hg : ∀ {y : SE}, geD D y = true → ¬ (y.val ρ < 0) := fun {y} hy => by
    unfold geD at hy
    split at hy
    · rename_i hz
      unfold geZ at hz
      split at hz
      · split at hz
        · simp [SE.val]
        · cases hz
      · cases hz
    · split at hy
      · cases hy
      split at hy
      · rename_i hc
        have h1 := hD.cmp _ _ _ _ hc P w
        have h2 : (pure (Value.bool (decide (y.val ρ < 0))) : Sem Value).run P w = .ok (.bool false) w := h1
        intro hlt
        rw [decide_eq_true hlt] at h2
        simp at h2
      · cases hy
  split at h
  · split at h <;> cases h
    rename_i hy
    refine ⟨_, ?_, .int (arith_val hD _ _ _ _)⟩
    simp only [binOp, Op.shift]; rw [if_neg (hg hy)]; simp [binVal]
  · split at h <;> cases h
    rename_i hy
    refine ⟨_, ?_, .int (arith_val hD _ _ _ _)⟩
    simp only [binOp, Op.shift]; rw [if_neg (hg hy)]; simp [binVal]
  · split at h
    · rename_i hk
      have := kindB_eq hk; subst this
      split at h <;> cases h
      rename_i hy
      refine ⟨_, ?_, .int (arith_val hD _ _ _ _)⟩
      simp [binOp, Op.intDiv, hz hy, binVal]
    · cases h
  · split at h
    · rename_i hk
      have := kindB_eq hk; subst this
      split at h <;> cases h
      rename_i hy
      refine ⟨_, ?_, .int (arith_val hD _ _ _ _)⟩
      simp [binOp, Op.intDiv, hz hy, binVal]
    · cases h
  · split at h <;> cases h
    rename_i hk
    have := kindB_eq hk; subst this
    exact ⟨_, by simp [binOp, Op.intArith, binVal], .int (arith_val hD _ _ _ _)⟩
  · split at h <;> cases h
    rename_i hk
    have := kindB_eq hk; subst this
    exact ⟨_, by simp [binOp, Op.intArith, binVal], .int (arith_val hD _ _ _ _)⟩
  · split at h <;> cases h
    rename_i hk
    have := kindB_eq hk; subst this
    exact ⟨_, by simp [binOp, Op.intArith, binVal], .int (arith_val hD _ _ _ _)⟩
  · split at h <;> cases h
    rename_i hk
    have := kindB_eq hk; subst this
    exact ⟨_, by simp only [binOp, Op.intBits, binVal]; simp, .int (arith_val hD _ _ _ _)⟩
  · split at h <;> cases h
    rename_i hk
    have := kindB_eq hk; subst this
    exact ⟨_, by simp only [binOp, Op.intBits, binVal]; simp, .int (arith_val hD _ _ _ _)⟩
  · split at h <;> cases h
    rename_i hk
    have := kindB_eq hk; subst this
    exact ⟨_, by simp only [binOp, Op.intBits, binVal]; simp, .int (arith_val hD _ _ _ _)⟩
  · split at h <;> cases h
    rename_i hk
    have := kindB_eq hk; subst this
    exact ⟨_, by simp only [binOp, Op.intBits, binVal]; simp, .int (arith_val hD _ _ _ _)⟩
  · rename_i n1 n2 n3 n4 n5 n6 n7 n8 n9 n10 n11
    split at h
    · rename_i hk
      have := kindB_eq hk; subst this
      split at h
      · rename_i r hr
        cases h
        have hc := cmp_ok (P := P) (w := w) hD hr
        refine ⟨.bool r, ?_, .bool⟩
        cases op <;> first
          | (exact absurd rfl (by assumption))
          | (simpa [binOp] using hc)
      · cases h
    · cases h

/-! ### Equality of other values; nil -/
noncomputable def bytesB : List UInt8 → List UInt8 → Bool
  | [], [] => true
  | [], _ :: _ => false
  | _ :: _, [] => false
  | a :: r, b :: s => match Nat.beq a.toNat b.toNat with
    | true => bytesB r s
    | false => false
theorem bytesB_eq : ∀ (a b : List UInt8), bytesB a b = (a == b)
  | [], [] => rfl
  | [], _ :: _ => rfl
  | _ :: _, [] => rfl
  | a :: r, b :: s => by
    simp only [bytesB]
    split
    · rename_i h
      have : a = b := UInt8.toNat_inj.1 (Nat.eq_of_beq_eq_true h)
      rw [bytesB_eq r s, this]; simp
    · rename_i h
      have : a ≠ b := fun e => by subst e; simp at h
      symm; simp [this]
/-- Are values of a type one? -/
noncomputable def eqA (P : Program) (t : TypeId) (a b : AV) : Option Bool :=
  match P.underlying t with
  | some .bool => match a with
    | .bool p => match b with
      | .bool q => some (Bool.rec (motive := fun _ => Bool) (not q) q p)
      | _ => none
    | _ => none
  | some .string => match a with
    | .str s => match b with
      | .str u => some (bytesB s.data.toList u.data.toList)
      | _ => none
    | _ => none
  | some (.pointer _) => match a with
    | .nilp => match b with
      | .nilp => some true
      | .ptr .. => some false
      | _ => none
    | .ptr .. => match b with
      | .nilp => some false
      | _ => none
    | _ => none
  | some (.slice _) => match a with
    | .nils => match b with
      | .nils => some true
      | .sl .. => some false
      | _ => none
    | .sl .. => match b with
      | .nils => some false
      | _ => none
    | _ => none
  | some (.interface _) => match a with
    | .nili => match b with
      | .ifc .. => some false
      | _ => none
    | .ifc .. => match b with
      | .nili => some false
      | _ => none
    | _ => none
  | some (.func ..) => match a with
    | .nilf => match b with
      | .nilf => some true
      | .fn .. => some false
      | _ => none
    | .fn .. => match b with
      | .nilf => some false
      | _ => none
    | _ => none
  | _ => none
theorem eqIn_ok (d : Nat) {t : TypeId} {a b : AV} {a' b' : Value} (ha : VR μ ρ a a') (hb : VR μ ρ b b') {r : Bool} (h : eqA P t a b = some r) : (Op.equalIn (d + 1) t a' b').run P w = .ok r w := by
  unfold eqA at h
  split at h
  · rename_i hu
    split at h
    · split at h <;> cases h
      cases ha; cases hb
      rw [run_equalIn_bool w d t _ _ hu]
      rename_i p _ q
      cases p <;> cases q <;> rfl
    · cases h
  · rename_i hu
    split at h
    · split at h <;> cases h
      cases ha; cases hb
      rw [run_equalIn_string w d t _ _ hu, ByteArray.toList_eq, ByteArray.toList_eq, bytesB_eq]
    · cases h
  · rename_i e hu
    split at h
    · split at h <;> cases h <;> cases ha <;> cases hb <;> simp [Op.equalIn, run_underlying hu]
    · split at h <;> cases h <;> cases ha <;> cases hb <;> simp [Op.equalIn, run_underlying hu]
    · cases h
  · rename_i e hu
    split at h
    · split at h <;> cases h <;> cases ha <;> cases hb <;> simp [Op.equalIn, run_underlying hu]
    · split at h <;> cases h <;> cases ha <;> cases hb <;> simp [Op.equalIn, run_underlying hu]
    · cases h
  · rename_i e hu
    split at h
    · split at h <;> cases h <;> cases ha <;> cases hb <;> simp [Op.equalIn, run_underlying hu]
    · split at h <;> cases h <;> cases ha <;> cases hb <;> simp [Op.equalIn, run_underlying hu]
    · cases h
  · rename_i hu
    split at h
    · split at h <;> cases h <;> cases ha <;> cases hb <;> simp [Op.equalIn, run_underlying hu]
    · split at h <;> cases h <;> cases ha <;> cases hb <;> simp [Op.equalIn, run_underlying hu]
    · cases h
  · cases h
theorem eq_ok {t : TypeId} {a b : AV} {a' b' : Value} (ha : VR μ ρ a a') (hb : VR μ ρ b b') {r : Bool} (h : eqA P t a b = some r) : (Op.equal t a' b').run P w = .ok r w := eqIn_ok 9999 ha hb h
theorem eqA_nili (t : TypeId) : eqA P t .nili .nili = none := by unfold eqA; split <;> rfl
theorem eqA_agg (t : TypeId) (l : List AV) (b : AV) : eqA P t (.agg l) b = none := by unfold eqA; split <;> rfl
noncomputable def fkEq (a b : FloatKind) : Bool :=
  match a with
  | .f32 => match b with
    | .f32 => true
    | _ => false
  | .f64 => match b with
    | .f64 => true
    | _ => false
theorem fkEq_ok {a b : FloatKind} (h : fkEq a b = true) : a = b := by cases a <;> cases b <;> first | rfl | cases h
noncomputable def fltBin (op : BinOp) (k : FloatKind) (x y : Nat) : Option AV :=
  match op with
  | .eql => some (.bool (k.format.order x y == some .eq))
  | .neq => some (.bool (k.format.order x y != some .eq))
  | .lss => some (.bool (k.format.order x y == some .lt))
  | .leq => some (.bool (k.format.order x y == some .lt || k.format.order x y == some .eq))
  | .gtr => some (.bool (k.format.order x y == some .gt))
  | .geq => some (.bool (k.format.order x y == some .gt || k.format.order x y == some .eq))
  | _ => none
theorem fltBin_ok {op : BinOp} {k : FloatKind} {x y : Nat} {v : AV} (h : fltBin op k x y = some v) (t : TypeId) : ∃ v', (binOp op t (.float k x) (.float k y)).run P w = .ok v' w ∧ VR μ ρ v v' := by
  unfold fltBin at h
  split at h <;> first
    | (cases h; exact ⟨_, by simp only [binOp, ne_eq, not_true_eq_false, if_false, Op.floatCmp, Sem.run_pure], .bool⟩)
    | cases h
noncomputable def nanBin (op : BinOp) : Option AV :=
  match op with
  | .eql => some (.bool false)
  | .neq => some (.bool true)
  | .lss => some (.bool false)
  | .leq => some (.bool false)
  | .gtr => some (.bool false)
  | .geq => some (.bool false)
  | _ => none
theorem nanBin_ok {op : BinOp} {k : FloatKind} {x y : Nat} {v : AV} (hx : ∃ s t, k.format.read x = .nan s t) (h : nanBin op = some v) (t : TypeId) : ∃ v', (binOp op t (.float k x) (.float k y)).run P w = .ok v' w ∧ VR μ ρ v v' := by
  have ho : k.format.order x y = none := by
    obtain ⟨s, t, e⟩ := hx
    unfold Ieee.Format.order
    rw [e]; rfl
  unfold nanBin at h
  split at h <;> first
    | (cases h; exact ⟨_, by simp only [binOp, ne_eq, not_true_eq_false, if_false, Op.floatCmp, Sem.run_pure, ho]; rfl, .bool⟩)
    | cases h
noncomputable def binA (P : Program) (D : Dec) (op : BinOp) (t : TypeId) (a b : AV) : Option AV :=
  match a with
  | .int k x => match b with
    | .int k' y => intBinA D op k x k' y
    | _ => none
  | .str s => match b with
    | .str u => match op with
      | .eql => some (.bool (bytesB s.data.toList u.data.toList))
      | .neq => some (.bool (not (bytesB s.data.toList u.data.toList)))
      | _ => none
    | _ => none
  | .float k x => match b with
    | .float k' y => match fkEq k k' with
      | true => fltBin op k x y
      | false => none
    | _ => none
  | .ustr .. => none
  | .nan k => match b with
    | .nan k' => match fkEq k k' with
      | true => nanBin op
      | false => none
    | _ => none
  | a => match op with
    | .eql => match eqA P t a b with
      | some r => some (.bool r)
      | none => none
    | .neq => match eqA P t a b with
      | some r => some (.bool (not r))
      | none => none
    | _ => none
theorem eqGuard_ok {op : BinOp} {t : TypeId} {x y : Operand} {a b : AV} {a' b' : Value} (ha : VR μ ρ a a') (hb : VR μ ρ b b') {D : Dec} {v : AV} (h : binA P D op t a b = some v) : (eqGuard op t x y a' b').run P w = .ok () w := by
  have hn : ∀ (hop : op = .eql ∨ op = .neq), ¬ (a = .nili ∧ b = .nili) ∧ ¬ (∃ l, a = .agg l) := fun hop => by
    refine ⟨fun ⟨e1, e2⟩ => ?_, fun ⟨l, e1⟩ => ?_⟩
    · subst e1; subst e2
      rcases hop with rfl | rfl <;> simp [binA, eqA_nili] at h
    · subst e1
      rcases hop with rfl | rfl <;> simp [binA, eqA_agg] at h
  cases op <;> first
    | rfl
    | (have hn := hn (by simp); cases ha <;> cases hb <;> first
        | rfl
        | (exact absurd ⟨rfl, rfl⟩ hn.1)
        | (exact absurd ⟨_, rfl⟩ hn.2))
theorem bin_ok (_hG : GR G μ ρ H w) {D : Dec} (hD : D.OK P ρ) {op : BinOp} {t : TypeId} {a b : AV} {a' b' : Value} (ha : VR μ ρ a a') (hb : VR μ ρ b b') {v : AV} (h : binA P D op t a b = some v) :
    ∃ v', (binOp op t a' b').run P w = .ok v' w ∧ VR μ ρ v v' := by
  unfold binA at h
  split at h
  · split at h
    · cases ha with
      | int e1 => cases hb with
        | int e2 => subst e1; subst e2; exact intBin_ok hD h t
    · cases h
  · split at h
    · cases ha; cases hb
      rename_i s u
      split at h <;> cases h
      · refine ⟨_, ?_, .bool⟩
        simp [binOp, Op.stringOp, ByteArray.toList_eq, bytesB_eq]
      · refine ⟨_, ?_, .bool⟩
        simp [binOp, Op.stringOp, ByteArray.toList_eq, bytesB_eq]
    · cases h
  · split at h
    · split at h
      · rename_i hk
        have hk := fkEq_ok hk
        subst hk
        cases ha; cases hb
        exact fltBin_ok h t
      · cases h
    · cases h
  · cases h
  · split at h
    · split at h
      · rename_i hk
        have hk := fkEq_ok hk
        subst hk
        cases ha with
        | nan h1 =>
        cases hb with
        | nan h2 => exact nanBin_ok h1 h t
      · cases h
    · cases h
  · rename_i n1 n2 n3 n4 n5
    have hne : ∀ {op : BinOp} (f : Bool → Bool) , (op = .eql ∧ f = id) ∨ (op = .neq ∧ f = not) → ∀ r, eqA P t a b = some r → (binOp op t a' b').run P w = .ok (.bool (f r)) w := fun {op} f hop r hr => by
      have he := eq_ok (P := P) (w := w) ha hb hr
      rcases hop with ⟨rfl, rfl⟩ | ⟨rfl, rfl⟩
      · cases ha <;> first
          | (exact absurd rfl (n1 _ _))
          | (exact absurd rfl (n2 _))
          | (exact absurd rfl (n3 _ _))
          | (exact absurd rfl (n4 _))
          | (exact absurd rfl (n5 _))
          | (cases hb <;> simp [binOp, he])
      · cases ha <;> first
          | (exact absurd rfl (n1 _ _))
          | (exact absurd rfl (n2 _))
          | (exact absurd rfl (n3 _ _))
          | (exact absurd rfl (n4 _))
          | (exact absurd rfl (n5 _))
          | (cases hb <;> simp [binOp, he])
    split at h
    · split at h
      · rename_i r hr
        cases h
        exact ⟨_, hne id (.inl ⟨rfl, rfl⟩) r hr, .bool⟩
      · cases h
    · split at h
      · rename_i r hr
        cases h
        exact ⟨_, hne not (.inr ⟨rfl, rfl⟩) r hr, .bool⟩
      · cases h
    · cases h
end
end Vx
