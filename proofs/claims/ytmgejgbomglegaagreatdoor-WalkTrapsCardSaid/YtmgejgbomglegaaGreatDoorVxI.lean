/-
  Numbers that are known to lie between bounds.
-/
import Derived.Test.YtmgejgbomglegaaGreatDoorVx32
namespace Vx
open Go Go.RowKit

/-- Some bits of a number, between two bounds. -/
structure IV : Type where
  i : Nat
  m : Nat
  lo : Nat
  hi : Nat
def IV.OK (ρ : Nat → Int) (c : IV) : Prop := (c.lo : Int) ≤ binVal .and .i64 (ρ c.i) (c.m : Int) ∧ binVal .and .i64 (ρ c.i) (c.m : Int) ≤ (c.hi : Int)
noncomputable def ivFind (j m : Nat) : List IV → Option (Int × Int)
  | [] => none
  | c :: r => match Nat.beq c.i j with
    | true => match Nat.beq c.m m with
      | true => some (.ofNat c.lo, .ofNat c.hi)
      | false => ivFind j m r
    | false => ivFind j m r
noncomputable def ivAt (l : List IV) (e : SE) : Option (Int × Int) :=
  match e with
  | .bin .and .i64 (.var j) (.lit (.ofNat m)) => ivFind j m l
  | _ => none
noncomputable def ivOp (op : BinOp) (k : IntKind) (x y n : Nat) : Option (Int × Int) :=
  match op with
  | .and => match k with
    | .i64 => match Nat.beq (Nat.pow 2 (Nat.log2 (Nat.succ n))) (Nat.succ n) with
      | true => match Nat.beq (Nat.div x (Nat.succ n)) (Nat.div y (Nat.succ n)) with
        | true => match Nat.ble n 4611686018427387904 with
          | true => some (.ofNat (Nat.mod x (Nat.succ n)), .ofNat (Nat.mod y (Nat.succ n)))
          | false => none
        | false => none
      | false => none
    | _ => none
  | .shr => match k with
    | .i64 => match Nat.ble n 63 with
      | true => some (.ofNat (Nat.div x (Nat.pow 2 n)), .ofNat (Nat.div y (Nat.pow 2 n)))
      | false => none
    | .u64 => match Nat.ble n 63 with
      | true => some (.ofNat (Nat.div x (Nat.pow 2 n)), .ofNat (Nat.div y (Nat.pow 2 n)))
      | false => none
    | _ => none
  | _ => none
noncomputable def ivIn (op : BinOp) (k : IntKind) (n : Nat) (r : Option (Int × Int)) : Option (Int × Int) :=
  match r with
  | some (.ofNat x, .ofNat y) => match Nat.ble y 4611686018427387904 with
    | true => ivOp op k x y n
    | false => none
  | _ => none
noncomputable def ivMask (op : BinOp) (k : IntKind) (n : Nat) : Option (Int × Int) :=
  match op with
  | .and => match k with
    | .i64 => match Nat.ble n 4611686018427387904 with
      | true => some (.ofNat 0, .ofNat n)
      | false => none
    | _ => none
  | _ => none
noncomputable def ivOf (l : List IV) : SE → Option (Int × Int)
  | .lit n => some (n, n)
  | .var _ => none
  | .conv k a => match k with
    | .u64 => match ivOf l a with
      | some (.ofNat x, .ofNat y) => match Nat.ble y 4611686018427387904 with
        | true => some (.ofNat x, .ofNat y)
        | false => none
      | _ => none
    | _ => none
  | .bin op k a b => match ivAt l (.bin op k a b) with
    | some r => some r
    | none => match b with
      | .lit (.ofNat n) => match ivIn op k n (ivOf l a) with
        | some r => some r
        | none => ivMask op k n
      | _ => none
theorem ivFind_ok {ρ : Nat → Int} {j m : Nat} : ∀ {l : List IV}, (∀ c ∈ l, c.OK ρ) → ∀ {r : Int × Int}, ivFind j m l = some r → r.1 ≤ binVal .and .i64 (ρ j) (m : Int) ∧ binVal .and .i64 (ρ j) (m : Int) ≤ r.2
  | [], _, r, h => by simp [ivFind] at h
  | c :: l, hl, r, h => by
    have ih : ∀ {r : Int × Int}, ivFind j m l = some r → r.1 ≤ binVal .and .i64 (ρ j) (m : Int) ∧ binVal .and .i64 (ρ j) (m : Int) ≤ r.2 := ivFind_ok (l := l) fun c' hc => hl c' (List.mem_cons_of_mem _ hc)
    simp only [ivFind] at h
    split at h
    · rename_i h1
      split at h
      · rename_i h2
        cases h
        have h1 := Nat.eq_of_beq_eq_true h1
        have h2 := Nat.eq_of_beq_eq_true h2
        subst h1; subst h2
        exact hl c List.mem_cons_self
      · exact ih h
    · exact ih h
theorem ivAt_ok {ρ : Nat → Int} {l : List IV} (hl : ∀ c ∈ l, c.OK ρ) {e : SE} {r : Int × Int} (h : ivAt l e = some r) : r.1 ≤ e.val ρ ∧ e.val ρ ≤ r.2 := by
  unfold ivAt at h
  split at h
  · exact ivFind_ok hl h
  · cases h
theorem and_low (v n k : Nat) (hk : 2 ^ k = n + 1) (hn : n ≤ 4611686018427387904) (hv : v ≤ 4611686018427387904) : binVal .and .i64 (v : Int) (n : Int) = ((v % (n + 1) : Nat) : Int) := by
  have h1 : ((BitVec.ofInt 64 (v : Int)) &&& (BitVec.ofInt 64 (n : Int))).toNat = v % (n + 1) := by
    rw [BitVec.toNat_and, BitVec.toNat_ofInt, BitVec.toNat_ofInt]
    have e1 : ((v : Int) % ((2 ^ 64 : Nat) : Int)).toNat = v := by omega
    have e2 : ((n : Int) % ((2 ^ 64 : Nat) : Int)).toNat = n := by omega
    rw [e1, e2]
    have e3 : n = 2 ^ k - 1 := by omega
    rw [e3, Nat.and_two_pow_sub_one_eq_mod, ← e3, hk]
  have hlt : v % (n + 1) < n + 1 := Nat.mod_lt _ (by omega)
  show IntKind.i64.wrap ((((BitVec.ofInt 64 (v : Int)) &&& (BitVec.ofInt 64 (n : Int))).toNat : Nat) : Int) = _
  rw [h1]
  exact IntWalk.i64_in _ ⟨by omega, by omega⟩
theorem mod_mono {x v y d : Nat} (h1 : x ≤ v) (h2 : v ≤ y) (h : x / d = y / d) : x % d ≤ v % d ∧ v % d ≤ y % d := by
  have a1 := Nat.div_le_div_right (c := d) h1
  have a2 := Nat.div_le_div_right (c := d) h2
  have e : v / d = x / d := by omega
  have b1 := Nat.div_add_mod x d
  have b2 := Nat.div_add_mod v d
  have b3 := Nat.div_add_mod y d
  rw [e] at b2
  rw [← h] at b3
  omega
theorem ivOp_ok {ρ : Nat → Int} {op : BinOp} {k : IntKind} {a : SE} {x y n : Nat} (h1 : (x : Int) ≤ a.val ρ) (h2 : a.val ρ ≤ (y : Int)) (hy : y ≤ 4611686018427387904) {r : Int × Int} (h : ivOp op k x y n = some r) :
    r.1 ≤ binVal op k (a.val ρ) (n : Int) ∧ binVal op k (a.val ρ) (n : Int) ≤ r.2 := by
  obtain ⟨v, hv⟩ : ∃ v : Nat, a.val ρ = (v : Int) := ⟨(a.val ρ).toNat, by omega⟩
  rw [hv] at h1 h2 ⊢
  have shr : ∀ (k : IntKind), 63 < k.bits → n ≤ 63 → binVal .shr k (v : Int) (n : Int) = ((v / 2 ^ n : Nat) : Int) := fun k hk hn => by
    show Int.fdiv (v : Int) (2 ^ (min (n : Int).toNat k.bits)) = _
    have e : min (n : Int).toNat k.bits = n := by omega
    rw [e, Int.fdiv_eq_ediv_of_nonneg _ (by exact_mod_cast Nat.zero_le _)]
    norm_cast
  have bounds : ((x / 2 ^ n : Nat) : Int) ≤ ((v / 2 ^ n : Nat) : Int) ∧ ((v / 2 ^ n : Nat) : Int) ≤ ((y / 2 ^ n : Nat) : Int) := by
    have q1 := Nat.div_le_div_right (c := 2 ^ n) (show x ≤ v by omega)
    have q2 := Nat.div_le_div_right (c := 2 ^ n) (show v ≤ y by omega)
    omega
  unfold ivOp at h
  split at h
  · split at h
    · split at h
      · rename_i hp
        have hp := Nat.eq_of_beq_eq_true hp
        split at h
        · rename_i hd
          have hd := Nat.eq_of_beq_eq_true hd
          split at h
          · rename_i hn
            have hn := Nat.le_of_ble_eq_true hn
            cases h
            rw [and_low v n _ hp hn (by omega)]
            obtain ⟨m1, m2⟩ := mod_mono (show x ≤ v by omega) (show v ≤ y by omega) hd
            exact ⟨Int.ofNat_le.2 m1, Int.ofNat_le.2 m2⟩
          · cases h
        · cases h
      · cases h
    · cases h
  · split at h
    · split at h
      · rename_i hn
        have hn := Nat.le_of_ble_eq_true hn
        cases h
        rw [shr .i64 (by decide) hn]; exact bounds
      · cases h
    · split at h
      · rename_i hn
        have hn := Nat.le_of_ble_eq_true hn
        cases h
        rw [shr .u64 (by decide) hn]; exact bounds
      · cases h
    · cases h
  · cases h
theorem u64_in (v : Int) (h0 : 0 ≤ v) (h1 : v ≤ 4611686018427387904) : IntKind.u64.wrap v = v := by
  unfold IntKind.wrap
  simp [IntKind.signed, IntKind.bits]
  omega
theorem ivOf_ok {ρ : Nat → Int} {l : List IV} (hl : ∀ c ∈ l, c.OK ρ) : ∀ (e : SE) {r : Int × Int}, ivOf l e = some r → r.1 ≤ e.val ρ ∧ e.val ρ ≤ r.2
  | .lit n, r, h => by
    simp only [ivOf, Option.some.injEq] at h
    subst h; exact ⟨Int.le_refl _, Int.le_refl _⟩
  | .var _, r, h => by simp [ivOf] at h
  | .conv k a, r, h => by
    simp only [ivOf] at h
    split at h
    · split at h
      · rename_i x y hxy
        split at h
        · rename_i hy
          have hy := Nat.le_of_ble_eq_true hy
          cases h
          obtain ⟨q1, q2⟩ := ivOf_ok hl a hxy
          have q1 : (x : Int) ≤ a.val ρ := q1
          have q2 : a.val ρ ≤ (y : Int) := q2
          have e : (SE.conv .u64 a).val ρ = a.val ρ := u64_in _ (by omega) (by omega)
          rw [e]; exact ⟨q1, q2⟩
        · cases h
      · cases h
    · cases h
  | .bin op k a b, r, h => by
    simp only [ivOf] at h
    split at h
    · rename_i r' hr
      cases h
      exact ivAt_ok hl hr
    · split at h
      · rename_i n _
        split at h
        · rename_i r' hr
          cases h
          unfold ivIn at hr
          split at hr
          · rename_i x y hxy
            split at hr
            · rename_i hy
              have hy := Nat.le_of_ble_eq_true hy
              obtain ⟨q1, q2⟩ := ivOf_ok hl a hxy
              exact ivOp_ok q1 q2 hy hr
            · cases hr
          · cases hr
        · unfold ivMask at h
          split at h
          · split at h
            · split at h
              · rename_i hn
                have hn := Nat.le_of_ble_eq_true hn
                cases h
                obtain ⟨v, h1, h2⟩ := mask_and (a.val ρ) n (by omega)
                show (0 : Int) ≤ binVal .and .i64 (a.val ρ) (n : Int) ∧ binVal .and .i64 (a.val ρ) (n : Int) ≤ (n : Int)
                rw [h2]; omega
              · cases h
            · cases h
          · cases h
      · cases h

/-! ### Comparisons -/
noncomputable def ivCmp2 (op : BinOp) (a b c d : Int) : Option Bool :=
  match op with
  | .lss => match iblt b c with
    | true => some true
    | false => match iblt a d with
      | false => some false
      | true => none
  | .gtr => match iblt d a with
    | true => some true
    | false => match iblt c b with
      | false => some false
      | true => none
  | .leq => match iblt d a with
    | true => some false
    | false => match iblt c b with
      | false => some true
      | true => none
  | .geq => match iblt b c with
    | true => some false
    | false => match iblt a d with
      | false => some true
      | true => none
  | .eql => match iblt b c with
    | true => some false
    | false => match iblt d a with
      | true => some false
      | false => none
  | .neq => match iblt b c with
    | true => some true
    | false => match iblt d a with
      | true => some true
      | false => none
  | _ => none
noncomputable def ivCmp (l : List IV) (op : BinOp) (x y : SE) : Option Bool :=
  match ivOf l x with
  | some (a, b) => match ivOf l y with
    | some (c, d) => ivCmp2 op a b c d
    | none => none
  | none => none
theorem ivCmp2_ok {op : BinOp} {a b c d x y : Int} (h1 : a ≤ x) (h2 : x ≤ b) (h3 : c ≤ y) (h4 : y ≤ d) {r : Bool} (h : ivCmp2 op a b c d = some r) (P : Program) (w : World) : (Op.intCmp op x y).run P w = .ok (.bool r) w := by
  unfold ivCmp2 at h
  simp only [iblt_eq] at h
  split at h <;> first
    | (cases h; done)
    | (split at h <;> rename_i q1 <;> first
        | (cases h; simp only [decide_eq_true_eq] at q1; simp [Op.intCmp]; omega)
        | (split at h <;> rename_i q2 <;> first
            | (cases h; done)
            | (cases h; simp only [decide_eq_true_eq, decide_eq_false_iff_not] at q1 q2; simp [Op.intCmp]; omega)))
theorem ivCmp_ok {ρ : Nat → Int} {l : List IV} (hl : ∀ c ∈ l, c.OK ρ) {op : BinOp} {x y : SE} {r : Bool} (h : ivCmp l op x y = some r) (P : Program) (w : World) : (Op.intCmp op (x.val ρ) (y.val ρ)).run P w = .ok (.bool r) w := by
  unfold ivCmp at h
  split at h
  · rename_i a b hx
    split at h
    · rename_i c d hy
      obtain ⟨q1, q2⟩ := ivOf_ok hl x hx
      obtain ⟨q3, q4⟩ := ivOf_ok hl y hy
      exact ivCmp2_ok q1 q2 q3 q4 h P w
    · cases h
  · cases h

/-! ### One of two such numbers is no greater -/
noncomputable def isBits (i m : Nat) (e : SE) : Bool :=
  match e with
  | .bin .and .i64 (.var j) (.lit (.ofNat n)) => match Nat.beq i j with
    | true => Nat.beq m n
    | false => false
  | _ => false
theorem isBits_ok {i m : Nat} {e : SE} (h : isBits i m e = true) : e = .bin .and .i64 (.var i) (.lit (.ofNat m)) := by
  unfold isBits at h
  split at h
  · split at h
    · rename_i h1
      rw [Nat.eq_of_beq_eq_true h1, Nat.eq_of_beq_eq_true h]
    · cases h
  · cases h
/-- le: the i-th number's bits m are no greater than the j-th's. -/
structure RL : Type where
  i : Nat
  j : Nat
  m : Nat
  le : Bool
def RL.OK (ρ : Nat → Int) (c : RL) : Prop := decide (binVal .and .i64 (ρ c.i) (c.m : Int) ≤ binVal .and .i64 (ρ c.j) (c.m : Int)) = c.le
noncomputable def rlCmp (c : RL) (op : BinOp) (x y : SE) : Option Bool :=
  match isBits c.i c.m x with
  | true => match isBits c.j c.m y with
    | true => match op with
      | .leq => some c.le
      | .gtr => some (not c.le)
      | _ => none
    | false => none
  | false => match isBits c.j c.m x with
    | true => match isBits c.i c.m y with
      | true => match op with
        | .geq => some c.le
        | .lss => some (not c.le)
        | _ => none
      | false => none
    | false => none
theorem not_le_gt (X Y : Int) : decide (X > Y) = !decide (X ≤ Y) := by
  by_cases h : X ≤ Y
  · rw [decide_eq_true h, decide_eq_false (by omega)]; rfl
  · rw [decide_eq_false h, decide_eq_true (by omega)]; rfl
theorem rlCmp_ok {ρ : Nat → Int} {c : RL} (hc : c.OK ρ) {op : BinOp} {x y : SE} {r : Bool} (h : rlCmp c op x y = some r) (P : Program) (w : World) : (Op.intCmp op (x.val ρ) (y.val ρ)).run P w = .ok (.bool r) w := by
  have hc : decide (binVal .and .i64 (ρ c.i) (c.m : Int) ≤ binVal .and .i64 (ρ c.j) (c.m : Int)) = c.le := hc
  unfold rlCmp at h
  split at h
  · rename_i hx
    split at h
    · rename_i hy
      rw [isBits_ok hx, isBits_ok hy]
      show (Op.intCmp op (binVal .and .i64 (ρ c.i) (c.m : Int)) (binVal .and .i64 (ρ c.j) (c.m : Int))).run P w = _
      split at h <;> cases h
      · rw [← hc]; rfl
      · rw [← hc, ← not_le_gt]; rfl
    · cases h
  · split at h
    · rename_i hx
      split at h
      · rename_i hy
        rw [isBits_ok hx, isBits_ok hy]
        show (Op.intCmp op (binVal .and .i64 (ρ c.j) (c.m : Int)) (binVal .and .i64 (ρ c.i) (c.m : Int))).run P w = _
        split at h <;> cases h
        · rw [← hc]; rfl
        · rw [← hc, ← not_le_gt]; rfl
      · cases h
    · cases h
noncomputable def ivD (ext : FuncId → Option Ext) (f : FuncId) (l : List IV) (c : RL) : Dec :=
  ⟨fun op x y => match rlCmp c op x y with
    | some r => some r
    | none => ivCmp l op x y, fun e => e, plug1 f, ext, fun _ _ _ => none⟩
theorem ivD_ok {P : Program} {ρ : Nat → Int} (hmix : P.follows .mixedOrders = true) (hN : NoNG P) {ext : FuncId → Option Ext} (hx : ∀ f x, ext f = some x → Ext.OK P f x) {n : Nat} {f : FuncId} (h : lawB P (extD ext) n f [] = true) {l : List IV} (hl : ∀ c ∈ l, c.OK ρ) {c : RL} (hc : c.OK ρ) : (ivD ext f l c).OK P ρ := by
  have base := lawE_ok (ρ := ρ) hmix hN hx h (l := []) (fun c hc => by cases hc) (cls := [[]]) ⟨[], List.mem_cons_self, fun c hc => by cases hc⟩
  refine ⟨fun op x y r h => ?_, fun _ => rfl, base.plug, hx, fun _ _ _ _ _ h => by cases h⟩
  have h : (match rlCmp c op x y with
    | some r => some r
    | none => ivCmp l op x y) = some r := h
  split at h
  · rename_i r' hr
    cases h
    exact fun P w => rlCmp_ok hc hr P w
  · exact fun P w => ivCmp_ok hl h P w
end Vx
