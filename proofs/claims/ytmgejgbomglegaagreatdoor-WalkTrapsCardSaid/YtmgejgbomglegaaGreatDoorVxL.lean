/-
  Numbers that are alike modulo 2^32: sums of unknown numbers.
-/
import Derived.Test.YtmgejgbomglegaaGreatDoorVxI
namespace Vx
open Go Go.RowKit

/-- A sum: a number, and so many times each of three unknown ones. -/
structure L4 : Type where
  c : Int
  a0 : Int
  a1 : Int
  a2 : Int
def L4.val (ρ : Nat → Int) (l : L4) : Int := l.c + l.a0 * ρ 0 + l.a1 * ρ 1 + l.a2 * ρ 2
noncomputable def l4add (x y : L4) : L4 := L4.rec (motive := fun _ => L4) (fun c a0 a1 a2 => L4.rec (motive := fun _ => L4) (fun d b0 b1 b2 => ⟨Int.add c d, Int.add a0 b0, Int.add a1 b1, Int.add a2 b2⟩) y) x
noncomputable def l4sub (x y : L4) : L4 := L4.rec (motive := fun _ => L4) (fun c a0 a1 a2 => L4.rec (motive := fun _ => L4) (fun d b0 b1 b2 => ⟨Int.sub c d, Int.sub a0 b0, Int.sub a1 b1, Int.sub a2 b2⟩) y) x
noncomputable def l4mul (x : L4) (d : Int) : L4 := L4.rec (motive := fun _ => L4) (fun c a0 a1 a2 => ⟨Int.mul c d, Int.mul a0 d, Int.mul a1 d, Int.mul a2 d⟩) x
/-- A kind of 32 bits or more. -/
noncomputable def wideK (k : IntKind) : Bool :=
  match k with
  | .i32 => true
  | .u32 => true
  | .i64 => true
  | .u64 => true
  | _ => false
noncomputable def lin (e : SE) : Option L4 :=
  match e with
  | .lit n => some ⟨n, 0, 0, 0⟩
  | .var i => match i with
    | 0 => some ⟨0, 1, 0, 0⟩
    | 1 => some ⟨0, 0, 1, 0⟩
    | 2 => some ⟨0, 0, 0, 1⟩
    | _ => none
  | .conv k a => match wideK k with
    | true => lin a
    | false => none
  | .bin op k a b => match wideK k with
    | false => none
    | true => match op with
      | .add => match lin a with
        | some x => match lin b with
          | some y => some (l4add x y)
          | none => none
        | none => none
      | .sub => match lin a with
        | some x => match lin b with
          | some y => some (l4sub x y)
          | none => none
        | none => none
      | .mul => match b with
        | .lit n => match lin a with
          | some x => some (l4mul x n)
          | none => none
        | _ => none
      | .and => match k with
        | .i64 => match b with
          | .lit (.ofNat m) => match Nat.beq m 4294967295 with
            | true => lin a
            | false => none
          | _ => none
        | _ => none
      | _ => none
def Cg (x y : Int) : Prop := ∃ q : Int, x = y + 4294967296 * q
theorem Cg.refl (x : Int) : Cg x x := ⟨0, by omega⟩
theorem Cg.trans {x y z : Int} (h : Cg x y) (h' : Cg y z) : Cg x z := by
  obtain ⟨p, hp⟩ := h; obtain ⟨q, hq⟩ := h'; exact ⟨p + q, by omega⟩
theorem Cg.symm {x y : Int} (h : Cg x y) : Cg y x := by obtain ⟨p, hp⟩ := h; exact ⟨-p, by omega⟩
theorem Cg.add {x y u v : Int} (h : Cg x y) (h' : Cg u v) : Cg (x + u) (y + v) := by
  obtain ⟨p, hp⟩ := h; obtain ⟨q, hq⟩ := h'; exact ⟨p + q, by omega⟩
theorem Cg.sub {x y u v : Int} (h : Cg x y) (h' : Cg u v) : Cg (x - u) (y - v) := by
  obtain ⟨p, hp⟩ := h; obtain ⟨q, hq⟩ := h'; exact ⟨p - q, by omega⟩
theorem Cg.mul {x y : Int} (h : Cg x y) (n : Int) : Cg (x * n) (y * n) := by
  obtain ⟨p, hp⟩ := h
  exact ⟨p * n, by rw [hp, Int.add_mul, Int.mul_assoc]⟩
theorem wrap_cg {k : IntKind} (hk : wideK k = true) (x : Int) : Cg (k.wrap x) x := by
  cases k with
  | i32 =>
    by_cases hc : 2147483648 ≤ x % 4294967296
    · exact ⟨-(x / 4294967296) - 1, by unfold IntKind.wrap; simp [IntKind.signed, IntKind.bits, hc]; omega⟩
    · exact ⟨-(x / 4294967296), by unfold IntKind.wrap; simp [IntKind.signed, IntKind.bits, hc]; omega⟩
  | u32 => exact ⟨-(x / 4294967296), by unfold IntKind.wrap; simp [IntKind.signed, IntKind.bits]; omega⟩
  | i64 =>
    by_cases hc : 9223372036854775808 ≤ x % 18446744073709551616
    · exact ⟨-(x / 18446744073709551616 * 4294967296) - 4294967296, by unfold IntKind.wrap; simp [IntKind.signed, IntKind.bits, hc]; omega⟩
    · exact ⟨-(x / 18446744073709551616 * 4294967296), by unfold IntKind.wrap; simp [IntKind.signed, IntKind.bits, hc]; omega⟩
  | u64 => exact ⟨-(x / 18446744073709551616 * 4294967296), by unfold IntKind.wrap; simp [IntKind.signed, IntKind.bits]; omega⟩
  | _ => cases hk
theorem and_cg (x : Int) : Cg (binVal .and .i64 x ((4294967295 : Nat) : Int)) x := by
  have h1 : ((BitVec.ofInt 64 x) &&& (BitVec.ofInt 64 ((4294967295 : Nat) : Int))).toNat = (x % 18446744073709551616).toNat % 4294967296 := by
    rw [BitVec.toNat_and, BitVec.toNat_ofInt, BitVec.toNat_ofInt]
    have e2 : (((4294967295 : Nat) : Int) % ((2 ^ 64 : Nat) : Int)).toNat = 2 ^ 32 - 1 := by decide
    rw [e2, Nat.and_two_pow_sub_one_eq_mod]
    rfl
  refine (wrap_cg (k := .i64) rfl _).trans ?_
  show Cg ((((BitVec.ofInt 64 x) &&& (BitVec.ofInt 64 ((4294967295 : Nat) : Int))).toNat : Nat) : Int) x
  rw [h1]
  have h0 : 0 ≤ x % 18446744073709551616 := Int.emod_nonneg _ (by decide)
  refine ⟨-(x / 18446744073709551616 * 4294967296 + (x % 18446744073709551616) / 4294967296), ?_⟩
  omega
theorem lin_ok {ρ : Nat → Int} : ∀ (e : SE) {l : L4}, lin e = some l → Cg (e.val ρ) (l.val ρ)
  | .lit n, l, h => by
    simp only [lin, Option.some.injEq] at h
    subst h
    have e : (L4.mk n 0 0 0).val ρ = n := by simp [L4.val]
    rw [e]; exact Cg.refl _
  | .var i, l, h => by
    simp only [lin] at h
    split at h <;> cases h
    · have e : (L4.mk 0 1 0 0).val ρ = ρ 0 := by simp [L4.val]
      rw [e]; exact Cg.refl _
    · have e : (L4.mk 0 0 1 0).val ρ = ρ 1 := by simp [L4.val]
      rw [e]; exact Cg.refl _
    · have e : (L4.mk 0 0 0 1).val ρ = ρ 2 := by simp [L4.val]
      rw [e]; exact Cg.refl _
  | .conv k a, l, h => by
    simp only [lin] at h
    split at h
    · rename_i hk
      exact (wrap_cg hk _).trans (lin_ok a h)
    · cases h
  | .bin op k a b, l, h => by
    simp only [lin] at h
    split at h
    · cases h
    · rename_i hk
      split at h
      · split at h
        · rename_i x hx
          split at h
          · rename_i y hy
            cases h
            have e : (l4add x y).val ρ = x.val ρ + y.val ρ := by
              obtain ⟨c, a0, a1, a2⟩ := x
              obtain ⟨d, b0, b1, b2⟩ := y
              show (c + d) + (a0 + b0) * ρ 0 + (a1 + b1) * ρ 1 + (a2 + b2) * ρ 2 = (c + a0 * ρ 0 + a1 * ρ 1 + a2 * ρ 2) + (d + b0 * ρ 0 + b1 * ρ 1 + b2 * ρ 2)
              rw [Int.add_mul, Int.add_mul, Int.add_mul]; omega
            rw [e]
            exact (wrap_cg hk _).trans ((lin_ok a hx).add (lin_ok b hy))
          · cases h
        · cases h
      · split at h
        · rename_i x hx
          split at h
          · rename_i y hy
            cases h
            have e : (l4sub x y).val ρ = x.val ρ - y.val ρ := by
              obtain ⟨c, a0, a1, a2⟩ := x
              obtain ⟨d, b0, b1, b2⟩ := y
              show (c - d) + (a0 - b0) * ρ 0 + (a1 - b1) * ρ 1 + (a2 - b2) * ρ 2 = (c + a0 * ρ 0 + a1 * ρ 1 + a2 * ρ 2) - (d + b0 * ρ 0 + b1 * ρ 1 + b2 * ρ 2)
              rw [Int.sub_mul, Int.sub_mul, Int.sub_mul]; omega
            rw [e]
            exact (wrap_cg hk _).trans ((lin_ok a hx).sub (lin_ok b hy))
          · cases h
        · cases h
      · split at h
        · rename_i n
          split at h
          · rename_i x hx
            cases h
            have e : (l4mul x n).val ρ = x.val ρ * n := by
              obtain ⟨c, a0, a1, a2⟩ := x
              show c * n + (a0 * n) * ρ 0 + (a1 * n) * ρ 1 + (a2 * n) * ρ 2 = (c + a0 * ρ 0 + a1 * ρ 1 + a2 * ρ 2) * n
              rw [Int.add_mul, Int.add_mul, Int.add_mul, Int.mul_right_comm a0, Int.mul_right_comm a1, Int.mul_right_comm a2]
            rw [e]
            exact (wrap_cg hk _).trans ((lin_ok a hx).mul n)
          · cases h
        · cases h
      · split at h
        · split at h
          · split at h
            · rename_i hm
              have hm := Nat.eq_of_beq_eq_true hm
              subst hm
              exact (and_cg _).trans (lin_ok a h)
            · cases h
          · cases h
        · cases h
      · cases h
/-- A number from 0 to 2^32 - 1. -/
noncomputable def isU32 (e : SE) : Bool :=
  match e with
  | .lit (.ofNat n) => Nat.ble n 4294967295
  | .conv k a => match k with
    | .u32 => true
    | .i64 => isU32 a
    | .u64 => isU32 a
    | _ => false
  | .bin op k _ b => match k with
    | .u32 => wraps op
    | .i64 => match op with
      | .and => match b with
        | .lit (.ofNat m) => Nat.ble m 4294967295
        | _ => false
      | _ => false
    | _ => false
  | _ => false
theorem wrap_u32 (x : Int) : 0 ≤ IntKind.u32.wrap x ∧ IntKind.u32.wrap x < 4294967296 := by
  unfold IntKind.wrap
  simp [IntKind.signed, IntKind.bits]
  omega
theorem and_le (x : Int) (m : Nat) (hm : m ≤ 4611686018427387904) : 0 ≤ binVal .and .i64 x (m : Int) ∧ binVal .and .i64 x (m : Int) ≤ (m : Int) := by
  obtain ⟨v, h1, h2⟩ := mask_and x m (by omega)
  rw [h2]; omega
theorem isU32_ok {ρ : Nat → Int} : ∀ (e : SE), isU32 e = true → 0 ≤ e.val ρ ∧ e.val ρ < 4294967296
  | .lit n, h => by
    cases n with
    | ofNat n =>
      have := Nat.le_of_ble_eq_true h
      have e : (SE.lit (Int.ofNat n)).val ρ = (n : Int) := rfl
      omega
    | negSucc n => cases h
  | .var i, h => by cases h
  | .conv k a, h => by
    simp only [isU32] at h
    split at h
    · exact wrap_u32 _
    · have ih := isU32_ok a h (ρ := ρ)
      have e : (SE.conv .i64 a).val ρ = a.val ρ := IntWalk.i64_in _ ⟨by omega, by omega⟩
      rw [e]; exact ih
    · have ih := isU32_ok a h (ρ := ρ)
      have e : (SE.conv .u64 a).val ρ = a.val ρ := u64_in _ (by omega) (by omega)
      rw [e]; exact ih
    · cases h
  | .bin op k a b, h => by
    simp only [isU32] at h
    split at h
    · unfold wraps at h
      split at h <;> first | (exact wrap_u32 _) | (cases h)
    · split at h
      · split at h
        · rename_i m
          have hm := Nat.le_of_ble_eq_true h
          have := and_le (a.val ρ) m (by omega)
          have e : (SE.bin .and .i64 a (.lit (Int.ofNat m))).val ρ = binVal .and .i64 (a.val ρ) (m : Int) := rfl
          rw [e]; omega
        · cases h
      · cases h
    · cases h
noncomputable def modEq (x y : Int) : Bool := ibeq (Int.emod (Int.sub x y) 4294967296) 0
theorem modEq_ok {x y : Int} (h : modEq x y = true) : Cg x y := by
  unfold modEq at h
  rw [ibeq_eq] at h
  have h : (x - y) % 4294967296 = 0 := eq_of_beq h
  exact ⟨(x - y) / 4294967296, by omega⟩
noncomputable def l4eq (x y : L4) : Bool :=
  L4.rec (motive := fun _ => Bool) (fun c a0 a1 a2 => L4.rec (motive := fun _ => Bool) (fun d b0 b1 b2 => and (modEq c d) (and (modEq a0 b0) (and (modEq a1 b1) (modEq a2 b2)))) y) x
theorem l4eq_ok {x y : L4} (h : l4eq x y = true) (ρ : Nat → Int) : Cg (x.val ρ) (y.val ρ) := by
  obtain ⟨c, a0, a1, a2⟩ := x
  obtain ⟨d, b0, b1, b2⟩ := y
  have h : and (modEq c d) (and (modEq a0 b0) (and (modEq a1 b1) (modEq a2 b2))) = true := h
  simp only [Bool.and_eq_true] at h
  obtain ⟨h0, h1, h2, h3⟩ := h
  exact (((modEq_ok h0).add ((modEq_ok h1).mul _)).add ((modEq_ok h2).mul _)).add ((modEq_ok h3).mul _)
noncomputable def linSame (x y : SE) : Bool :=
  match isU32 x with
  | true => match isU32 y with
    | true => match lin x with
      | some a => match lin y with
        | some b => l4eq a b
        | none => false
      | none => false
    | false => false
  | false => false
theorem linSame_ok {x y : SE} (h : linSame x y = true) (ρ : Nat → Int) : x.val ρ = y.val ρ := by
  unfold linSame at h
  split at h
  · rename_i hx
    split at h
    · rename_i hy
      split at h
      · rename_i a ha
        split at h
        · rename_i b hb
          have h1 := isU32_ok (ρ := ρ) x hx
          have h2 := isU32_ok (ρ := ρ) y hy
          obtain ⟨q, hq⟩ := ((lin_ok (ρ := ρ) x ha).trans (l4eq_ok h ρ)).trans (lin_ok (ρ := ρ) y hb).symm
          omega
        · cases h
      · cases h
    · cases h
  · cases h
noncomputable def linCmp (op : BinOp) (x y : SE) : Option Bool :=
  match op with
  | .eql => match linSame x y with
    | true => some true
    | false => none
  | .neq => match linSame x y with
    | true => some false
    | false => none
  | _ => none
theorem linCmp_ok {ρ : Nat → Int} {op : BinOp} {x y : SE} {r : Bool} (h : linCmp op x y = some r) (P : Program) (w : World) : (Op.intCmp op (x.val ρ) (y.val ρ)).run P w = .ok (.bool r) w := by
  unfold linCmp at h
  split at h
  · split at h
    · rename_i hs
      cases h
      rw [linSame_ok hs ρ]
      simp [Op.intCmp]
    · cases h
  · split at h
    · rename_i hs
      cases h
      rw [linSame_ok hs ρ]
      simp [Op.intCmp]
    · cases h
  · cases h
noncomputable def wCmp (l : List IV) (op : BinOp) (x y : SE) : Option Bool :=
  match ivCmp l op x y with
  | some r => some r
  | none => linCmp op x y
/-- Bounds, sums; bits that are known. -/
noncomputable def wD (ext : FuncId → Option Ext) (f : FuncId) (l : List IV) (m : List MK) : Dec := ⟨wCmp l, redL m, plug1 f, ext, fun _ _ _ => none⟩
theorem wD_ok {P : Program} {ρ : Nat → Int} (hmix : P.follows .mixedOrders = true) (hN : NoNG P) {ext : FuncId → Option Ext} (hx : ∀ f x, ext f = some x → Ext.OK P f x) {n : Nat} {f : FuncId} (h : lawB P (extD ext) n f [] = true) {l : List IV} (hl : ∀ c ∈ l, c.OK ρ) {m : List MK} (hm : ∀ c ∈ m, c.OK ρ) : (wD ext f l m).OK P ρ := by
  have base := lawE_ok (ρ := ρ) hmix hN hx h (l := []) (fun c hc => by cases hc) (cls := [[]]) ⟨[], List.mem_cons_self, fun c hc => by cases hc⟩
  refine ⟨fun op x y r h => ?_, redL_ok hm, base.plug, hx, fun _ _ _ _ _ h => by cases h⟩
  have h : (match ivCmp l op x y with
    | some r => some r
    | none => linCmp op x y) = some r := h
  split at h
  · rename_i r' hr
    cases h
    exact fun P w => ivCmp_ok hl hr P w
  · exact fun P w => linCmp_ok h P w
end Vx
