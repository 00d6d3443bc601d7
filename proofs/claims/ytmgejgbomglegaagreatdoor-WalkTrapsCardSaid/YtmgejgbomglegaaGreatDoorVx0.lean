/-
  The evaluator's memory: rows of sixteen, in rows of sixteen; tries behind them.
-/
import Derived.WalkKit
namespace Vx
open Go

/-! ### Tries, for far indexes -/
inductive Bt (α : Type) : Type where
  | e | n (v : Option α) (l r : Bt α)

section
variable {α : Type}
noncomputable def Bt.get (t : Bt α) : Nat → Option α :=
  Bt.rec (motive := fun _ => Nat → Option α) (fun _ => none)
    (fun v _ _ gl gr k => Bool.rec (motive := fun _ => Option α) (Bool.rec (motive := fun _ => Option α) (gr (Nat.div k 2)) (gl (Nat.div k 2)) (Nat.beq (Nat.mod k 2) 0)) v (Nat.beq k 0)) t
noncomputable def Bt.setA (f : Nat) : Nat → Option α → Bt α → Bt α :=
  Nat.rec (motive := fun _ => Nat → Option α → Bt α → Bt α)
    (fun _ v t => Bt.rec (motive := fun _ => Bt α) (.n v .e .e) (fun _ l r _ _ => .n v l r) t)
    (fun _ ih k v t => Bool.rec (motive := fun _ => Bt α)
      (Bt.rec (motive := fun _ => Bt α)
        (Bool.rec (motive := fun _ => Bt α) (.n none .e (ih (Nat.div k 2) v .e)) (.n none (ih (Nat.div k 2) v .e) .e) (Nat.beq (Nat.mod k 2) 0))
        (fun v0 l r _ _ => Bool.rec (motive := fun _ => Bt α) (.n v0 l (ih (Nat.div k 2) v r)) (.n v0 (ih (Nat.div k 2) v l) r) (Nat.beq (Nat.mod k 2) 0)) t)
      (Bt.rec (motive := fun _ => Bt α) (.n v .e .e) (fun _ l r _ _ => .n v l r) t)
      (Nat.beq k 0)) f
noncomputable def Bt.put (t : Bt α) (k : Nat) (v : Option α) : Bt α := Bt.setA k k v t

theorem Bt.get_e (k : Nat) : (Bt.e : Bt α).get k = none := rfl
theorem Bt.get_n (v : Option α) (l r : Bt α) (k : Nat) : (Bt.n v l r).get k = if k = 0 then v else if k % 2 = 0 then l.get (k / 2) else r.get (k / 2) := by
  show Bool.rec (motive := fun _ => Option α) (Bool.rec (motive := fun _ => Option α) (r.get (k / 2)) (l.get (k / 2)) (Nat.beq (k % 2) 0)) v (Nat.beq k 0) = _
  by_cases h : k = 0
  · subst h; rfl
  · have h1 : Nat.beq k 0 = false := by cases k with | zero => exact absurd rfl h | succ n => rfl
    rw [h1, if_neg h]
    by_cases h2 : k % 2 = 0
    · rw [h2]; rfl
    · have h3 : Nat.beq (k % 2) 0 = false := by cases hk : k % 2 with | zero => exact absurd hk h2 | succ n => rfl
      rw [h3, if_neg h2]
theorem Bt.setA_eq (f k : Nat) (v : Option α) (t : Bt α) : Bt.setA (f + 1) k v t = if k = 0 then (match t with | .e => .n v .e .e | .n _ l r => .n v l r) else
    (match t with
      | .e => if k % 2 = 0 then .n none (Bt.setA f (k / 2) v .e) .e else .n none .e (Bt.setA f (k / 2) v .e)
      | .n v0 l r => if k % 2 = 0 then .n v0 (Bt.setA f (k / 2) v l) r else .n v0 l (Bt.setA f (k / 2) v r)) := by
  by_cases h : k = 0
  · subst h; cases t <;> rfl
  · have h1 : Nat.beq k 0 = false := by cases k with | zero => exact absurd rfl h | succ n => rfl
    rw [if_neg h]
    show Bool.rec (motive := fun _ => Bt α) _ _ (Nat.beq k 0) = _
    rw [h1]
    by_cases h2 : k % 2 = 0
    · have h3 : Nat.beq (k % 2) 0 = true := by rw [h2]; rfl
      cases t <;> (show Bool.rec (motive := fun _ => Bt α) _ _ (Nat.beq (k % 2) 0) = _; rw [h3]; simp only [if_pos h2]; rfl)
    · have h3 : Nat.beq (k % 2) 0 = false := by cases hk : k % 2 with | zero => exact absurd hk h2 | succ n => rfl
      cases t <;> (show Bool.rec (motive := fun _ => Bt α) _ _ (Nat.beq (k % 2) 0) = _; rw [h3]; simp only [if_neg h2]; rfl)
theorem Bt.get_setA (v : Option α) : ∀ (f k : Nat) (t : Bt α) (j : Nat), k ≤ f → (Bt.setA f k v t).get j = if j = k then v else t.get j := by
  intro f
  induction f with
  | zero =>
    intro k t j hk
    obtain rfl : k = 0 := by omega
    cases t with
    | e =>
      show (Bt.n v .e .e).get j = _
      rw [Bt.get_n]; split <;> simp [Bt.get_e]
    | n v0 l r =>
      show (Bt.n v l r).get j = _
      rw [Bt.get_n, Bt.get_n]; split <;> simp_all
  | succ f ih =>
    intro k t j hk
    rw [Bt.setA_eq]
    by_cases h0 : k = 0
    · subst h0
      cases t with
      | e => simp only [if_true]; rw [Bt.get_n]; split <;> simp [Bt.get_e]
      | n v0 l r => simp only [if_true]; rw [Bt.get_n, Bt.get_n]; split <;> simp_all
    · simp only [if_neg h0]
      have hd : k / 2 ≤ f := by omega
      by_cases h2 : k % 2 = 0
      · cases t with
        | e =>
          simp only [if_pos h2]
          rw [Bt.get_n, ih _ _ _ hd]
          by_cases hj0 : j = 0
          · subst hj0; rw [if_pos rfl, if_neg (by omega)]; rfl
          · rw [if_neg hj0]
            by_cases hj2 : j % 2 = 0
            · rw [if_pos hj2]
              by_cases hjk : j = k
              · rw [if_pos (by omega), if_pos hjk]
              · rw [if_neg (by omega), if_neg hjk]; rfl
            · rw [if_neg hj2, if_neg (by omega)]; rfl
        | n v0 l r =>
          simp only [if_pos h2]
          rw [Bt.get_n, Bt.get_n, ih _ _ _ hd]
          by_cases hj0 : j = 0
          · subst hj0; rw [if_pos rfl, if_neg (by omega), if_pos rfl]
          · rw [if_neg hj0, if_neg hj0]
            by_cases hj2 : j % 2 = 0
            · rw [if_pos hj2, if_pos hj2]
              by_cases hjk : j = k
              · rw [if_pos (by omega), if_pos hjk]
              · rw [if_neg (by omega), if_neg hjk]
            · rw [if_neg hj2, if_neg hj2, if_neg (by omega)]
      · cases t with
        | e =>
          simp only [if_neg h2]
          rw [Bt.get_n, ih _ _ _ hd]
          by_cases hj0 : j = 0
          · subst hj0; rw [if_pos rfl, if_neg (by omega)]; rfl
          · rw [if_neg hj0]
            by_cases hj2 : j % 2 = 0
            · rw [if_pos hj2, if_neg (by omega)]; rfl
            · rw [if_neg hj2]
              by_cases hjk : j = k
              · rw [if_pos (by omega), if_pos hjk]
              · rw [if_neg (by omega), if_neg hjk]; rfl
        | n v0 l r =>
          simp only [if_neg h2]
          rw [Bt.get_n, Bt.get_n, ih _ _ _ hd]
          by_cases hj0 : j = 0
          · subst hj0; rw [if_pos rfl, if_neg (by omega), if_pos rfl]
          · rw [if_neg hj0, if_neg hj0]
            by_cases hj2 : j % 2 = 0
            · rw [if_pos hj2, if_pos hj2, if_neg (by omega)]
            · rw [if_neg hj2, if_neg hj2]
              by_cases hjk : j = k
              · rw [if_pos (by omega), if_pos hjk]
              · rw [if_neg (by omega), if_neg hjk]
theorem Bt.get_put (t : Bt α) (k : Nat) (v : Option α) (j : Nat) : (t.put k v).get j = if j = k then v else t.get j := Bt.get_setA v k k t j (Nat.le_refl _)
end


/-! ### Rows of sixteen -/
structure N16 (β : Type) : Type where
  a0 : β
  a1 : β
  a2 : β
  a3 : β
  a4 : β
  a5 : β
  a6 : β
  a7 : β
  a8 : β
  a9 : β
  a10 : β
  a11 : β
  a12 : β
  a13 : β
  a14 : β
  a15 : β
noncomputable def sel0 {β : Type} (t : N16 β) : β := t.a0
noncomputable def sel1 {β : Type} (t : N16 β) : β := t.a1
noncomputable def sel2 {β : Type} (t : N16 β) : β := t.a2
noncomputable def sel3 {β : Type} (t : N16 β) : β := t.a3
noncomputable def sel4 {β : Type} (t : N16 β) : β := t.a4
noncomputable def sel5 {β : Type} (t : N16 β) : β := t.a5
noncomputable def sel6 {β : Type} (t : N16 β) : β := t.a6
noncomputable def sel7 {β : Type} (t : N16 β) : β := t.a7
noncomputable def sel8 {β : Type} (t : N16 β) : β := t.a8
noncomputable def sel9 {β : Type} (t : N16 β) : β := t.a9
noncomputable def sel10 {β : Type} (t : N16 β) : β := t.a10
noncomputable def sel11 {β : Type} (t : N16 β) : β := t.a11
noncomputable def sel12 {β : Type} (t : N16 β) : β := t.a12
noncomputable def sel13 {β : Type} (t : N16 β) : β := t.a13
noncomputable def sel14 {β : Type} (t : N16 β) : β := t.a14
noncomputable def sel15 {β : Type} (t : N16 β) : β := t.a15
noncomputable def upd0 {β : Type} (t : N16 β) (v : β) : N16 β := N16.rec (motive := fun _ => N16 β) (fun _ x1 x2 x3 x4 x5 x6 x7 x8 x9 x10 x11 x12 x13 x14 x15 => ⟨v, x1, x2, x3, x4, x5, x6, x7, x8, x9, x10, x11, x12, x13, x14, x15⟩) t
noncomputable def upd1 {β : Type} (t : N16 β) (v : β) : N16 β := N16.rec (motive := fun _ => N16 β) (fun x0 _ x2 x3 x4 x5 x6 x7 x8 x9 x10 x11 x12 x13 x14 x15 => ⟨x0, v, x2, x3, x4, x5, x6, x7, x8, x9, x10, x11, x12, x13, x14, x15⟩) t
noncomputable def upd2 {β : Type} (t : N16 β) (v : β) : N16 β := N16.rec (motive := fun _ => N16 β) (fun x0 x1 _ x3 x4 x5 x6 x7 x8 x9 x10 x11 x12 x13 x14 x15 => ⟨x0, x1, v, x3, x4, x5, x6, x7, x8, x9, x10, x11, x12, x13, x14, x15⟩) t
noncomputable def upd3 {β : Type} (t : N16 β) (v : β) : N16 β := N16.rec (motive := fun _ => N16 β) (fun x0 x1 x2 _ x4 x5 x6 x7 x8 x9 x10 x11 x12 x13 x14 x15 => ⟨x0, x1, x2, v, x4, x5, x6, x7, x8, x9, x10, x11, x12, x13, x14, x15⟩) t
noncomputable def upd4 {β : Type} (t : N16 β) (v : β) : N16 β := N16.rec (motive := fun _ => N16 β) (fun x0 x1 x2 x3 _ x5 x6 x7 x8 x9 x10 x11 x12 x13 x14 x15 => ⟨x0, x1, x2, x3, v, x5, x6, x7, x8, x9, x10, x11, x12, x13, x14, x15⟩) t
noncomputable def upd5 {β : Type} (t : N16 β) (v : β) : N16 β := N16.rec (motive := fun _ => N16 β) (fun x0 x1 x2 x3 x4 _ x6 x7 x8 x9 x10 x11 x12 x13 x14 x15 => ⟨x0, x1, x2, x3, x4, v, x6, x7, x8, x9, x10, x11, x12, x13, x14, x15⟩) t
noncomputable def upd6 {β : Type} (t : N16 β) (v : β) : N16 β := N16.rec (motive := fun _ => N16 β) (fun x0 x1 x2 x3 x4 x5 _ x7 x8 x9 x10 x11 x12 x13 x14 x15 => ⟨x0, x1, x2, x3, x4, x5, v, x7, x8, x9, x10, x11, x12, x13, x14, x15⟩) t
noncomputable def upd7 {β : Type} (t : N16 β) (v : β) : N16 β := N16.rec (motive := fun _ => N16 β) (fun x0 x1 x2 x3 x4 x5 x6 _ x8 x9 x10 x11 x12 x13 x14 x15 => ⟨x0, x1, x2, x3, x4, x5, x6, v, x8, x9, x10, x11, x12, x13, x14, x15⟩) t
noncomputable def upd8 {β : Type} (t : N16 β) (v : β) : N16 β := N16.rec (motive := fun _ => N16 β) (fun x0 x1 x2 x3 x4 x5 x6 x7 _ x9 x10 x11 x12 x13 x14 x15 => ⟨x0, x1, x2, x3, x4, x5, x6, x7, v, x9, x10, x11, x12, x13, x14, x15⟩) t
noncomputable def upd9 {β : Type} (t : N16 β) (v : β) : N16 β := N16.rec (motive := fun _ => N16 β) (fun x0 x1 x2 x3 x4 x5 x6 x7 x8 _ x10 x11 x12 x13 x14 x15 => ⟨x0, x1, x2, x3, x4, x5, x6, x7, x8, v, x10, x11, x12, x13, x14, x15⟩) t
noncomputable def upd10 {β : Type} (t : N16 β) (v : β) : N16 β := N16.rec (motive := fun _ => N16 β) (fun x0 x1 x2 x3 x4 x5 x6 x7 x8 x9 _ x11 x12 x13 x14 x15 => ⟨x0, x1, x2, x3, x4, x5, x6, x7, x8, x9, v, x11, x12, x13, x14, x15⟩) t
noncomputable def upd11 {β : Type} (t : N16 β) (v : β) : N16 β := N16.rec (motive := fun _ => N16 β) (fun x0 x1 x2 x3 x4 x5 x6 x7 x8 x9 x10 _ x12 x13 x14 x15 => ⟨x0, x1, x2, x3, x4, x5, x6, x7, x8, x9, x10, v, x12, x13, x14, x15⟩) t
noncomputable def upd12 {β : Type} (t : N16 β) (v : β) : N16 β := N16.rec (motive := fun _ => N16 β) (fun x0 x1 x2 x3 x4 x5 x6 x7 x8 x9 x10 x11 _ x13 x14 x15 => ⟨x0, x1, x2, x3, x4, x5, x6, x7, x8, x9, x10, x11, v, x13, x14, x15⟩) t
noncomputable def upd13 {β : Type} (t : N16 β) (v : β) : N16 β := N16.rec (motive := fun _ => N16 β) (fun x0 x1 x2 x3 x4 x5 x6 x7 x8 x9 x10 x11 x12 _ x14 x15 => ⟨x0, x1, x2, x3, x4, x5, x6, x7, x8, x9, x10, x11, x12, v, x14, x15⟩) t
noncomputable def upd14 {β : Type} (t : N16 β) (v : β) : N16 β := N16.rec (motive := fun _ => N16 β) (fun x0 x1 x2 x3 x4 x5 x6 x7 x8 x9 x10 x11 x12 x13 _ x15 => ⟨x0, x1, x2, x3, x4, x5, x6, x7, x8, x9, x10, x11, x12, x13, v, x15⟩) t
noncomputable def upd15 {β : Type} (t : N16 β) (v : β) : N16 β := N16.rec (motive := fun _ => N16 β) (fun x0 x1 x2 x3 x4 x5 x6 x7 x8 x9 x10 x11 x12 x13 x14 _ => ⟨x0, x1, x2, x3, x4, x5, x6, x7, x8, x9, x10, x11, x12, x13, x14, v⟩) t
structure Dg (β : Type) : Type where
  sel : N16 β → β
  upd : N16 β → β → N16 β
noncomputable def dgN (β : Type) (k : Nat) : Dg β :=
  (Bool.rec (motive := fun _ => Dg β) (Bool.rec (motive := fun _ => Dg β) (Bool.rec (motive := fun _ => Dg β) (Bool.rec (motive := fun _ => Dg β) ⟨sel15, upd15⟩ ⟨sel14, upd14⟩ (Nat.ble k 14)) (Bool.rec (motive := fun _ => Dg β) ⟨sel13, upd13⟩ ⟨sel12, upd12⟩ (Nat.ble k 12)) (Nat.ble k 13)) (Bool.rec (motive := fun _ => Dg β) (Bool.rec (motive := fun _ => Dg β) ⟨sel11, upd11⟩ ⟨sel10, upd10⟩ (Nat.ble k 10)) (Bool.rec (motive := fun _ => Dg β) ⟨sel9, upd9⟩ ⟨sel8, upd8⟩ (Nat.ble k 8)) (Nat.ble k 9)) (Nat.ble k 11)) (Bool.rec (motive := fun _ => Dg β) (Bool.rec (motive := fun _ => Dg β) (Bool.rec (motive := fun _ => Dg β) ⟨sel7, upd7⟩ ⟨sel6, upd6⟩ (Nat.ble k 6)) (Bool.rec (motive := fun _ => Dg β) ⟨sel5, upd5⟩ ⟨sel4, upd4⟩ (Nat.ble k 4)) (Nat.ble k 5)) (Bool.rec (motive := fun _ => Dg β) (Bool.rec (motive := fun _ => Dg β) ⟨sel3, upd3⟩ ⟨sel2, upd2⟩ (Nat.ble k 2)) (Bool.rec (motive := fun _ => Dg β) ⟨sel1, upd1⟩ ⟨sel0, upd0⟩ (Nat.ble k 0)) (Nat.ble k 1)) (Nat.ble k 3)) (Nat.ble k 7))
noncomputable def dg (β : Type) (k : Nat) : Dg β := dgN β (Nat.mod k 16)
theorem dgN_ok {β : Type} (t : N16 β) (x : β) (a b : Nat) (ha : a < 16) (hb : b < 16) : (dgN β a).sel ((dgN β b).upd t x) = if a = b then x else (dgN β a).sel t := by
  have h1 : a = 0 ∨ a = 1 ∨ a = 2 ∨ a = 3 ∨ a = 4 ∨ a = 5 ∨ a = 6 ∨ a = 7 ∨ a = 8 ∨ a = 9 ∨ a = 10 ∨ a = 11 ∨ a = 12 ∨ a = 13 ∨ a = 14 ∨ a = 15 := by omega
  have h2 : b = 0 ∨ b = 1 ∨ b = 2 ∨ b = 3 ∨ b = 4 ∨ b = 5 ∨ b = 6 ∨ b = 7 ∨ b = 8 ∨ b = 9 ∨ b = 10 ∨ b = 11 ∨ b = 12 ∨ b = 13 ∨ b = 14 ∨ b = 15 := by omega
  clear ha hb
  cases t
  rcases h1 with h1 | h1 | h1 | h1 | h1 | h1 | h1 | h1 | h1 | h1 | h1 | h1 | h1 | h1 | h1 | h1 <;> subst h1 <;>
    rcases h2 with h2 | h2 | h2 | h2 | h2 | h2 | h2 | h2 | h2 | h2 | h2 | h2 | h2 | h2 | h2 | h2 <;> subst h2 <;> rfl
theorem dg_ok {β : Type} (t : N16 β) (x : β) (a b : Nat) : (dg β a).sel ((dg β b).upd t x) = if a % 16 = b % 16 then x else (dg β a).sel t :=
  dgN_ok t x (a % 16) (b % 16) (Nat.mod_lt _ (by omega)) (Nat.mod_lt _ (by omega))
noncomputable def nul (β : Type) (x : β) : N16 β := ⟨x, x, x, x, x, x, x, x, x, x, x, x, x, x, x, x⟩
theorem nul_sel {β : Type} (x : β) (a : Nat) : (dg β a).sel (nul β x) = x := by
  have ha : a % 16 < 16 := Nat.mod_lt _ (by omega)
  show (dgN β (a % 16)).sel (nul β x) = x
  generalize a % 16 = a at ha
  have h1 : a = 0 ∨ a = 1 ∨ a = 2 ∨ a = 3 ∨ a = 4 ∨ a = 5 ∨ a = 6 ∨ a = 7 ∨ a = 8 ∨ a = 9 ∨ a = 10 ∨ a = 11 ∨ a = 12 ∨ a = 13 ∨ a = 14 ∨ a = 15 := by omega
  clear ha
  rcases h1 with h1 | h1 | h1 | h1 | h1 | h1 | h1 | h1 | h1 | h1 | h1 | h1 | h1 | h1 | h1 | h1 <;> subst h1 <;> rfl

/-! ### Rows in rows -/
abbrev T1 (α : Type) : Type := N16 (Option α)
abbrev T2 (α : Type) : Type := N16 (T1 α)
abbrev T3 (α : Type) : Type := N16 (T2 α)
abbrev T4 (α : Type) : Type := N16 (T3 α)
noncomputable def e1 (α : Type) : T1 α := nul _ none
noncomputable def e2 (α : Type) : T2 α := nul _ (e1 α)
noncomputable def e3 (α : Type) : T3 α := nul _ (e2 α)
noncomputable def e4 (α : Type) : T4 α := nul _ (e3 α)
noncomputable def get1 (α : Type) (k : Nat) (t : T1 α) : Option α := (dg (Option α) k).sel t
noncomputable def get2 (α : Type) (k : Nat) (t : T2 α) : Option α := get1 α k ((dg (T1 α) (Nat.div k 16)).sel t)
noncomputable def get3 (α : Type) (k : Nat) (t : T3 α) : Option α := get2 α k ((dg (T2 α) (Nat.div k 256)).sel t)
noncomputable def get4 (α : Type) (k : Nat) (t : T4 α) : Option α := get3 α k ((dg (T3 α) (Nat.div k 4096)).sel t)
noncomputable def put1 (α : Type) (k : Nat) (v : Option α) (t : T1 α) : T1 α := (dg (Option α) k).upd t v
noncomputable def put2 (α : Type) (k : Nat) (v : Option α) (t : T2 α) : T2 α := (dg (T1 α) (Nat.div k 16)).upd t (put1 α k v ((dg (T1 α) (Nat.div k 16)).sel t))
noncomputable def put3 (α : Type) (k : Nat) (v : Option α) (t : T3 α) : T3 α := (dg (T2 α) (Nat.div k 256)).upd t (put2 α k v ((dg (T2 α) (Nat.div k 256)).sel t))
noncomputable def put4 (α : Type) (k : Nat) (v : Option α) (t : T4 α) : T4 α := (dg (T3 α) (Nat.div k 4096)).upd t (put3 α k v ((dg (T3 α) (Nat.div k 4096)).sel t))
section
variable {α : Type}
theorem get1_put (j k : Nat) (v : Option α) (t : T1 α) : get1 α j (put1 α k v t) = if j % 16 = k % 16 then v else get1 α j t := dg_ok t v j k
theorem get2_put (j k : Nat) (v : Option α) (t : T2 α) : get2 α j (put2 α k v t) = if j % 256 = k % 256 then v else get2 α j t := by
  unfold get2 put2
  rw [dg_ok]
  by_cases h : Nat.div j 16 % 16 = Nat.div k 16 % 16
  · rw [if_pos h, get1_put]
    have h : j / 16 % 16 = k / 16 % 16 := h
    have e : (dg (T1 α) (Nat.div k 16)).sel t = (dg (T1 α) (Nat.div j 16)).sel t := by unfold dg; rw [show Nat.mod (Nat.div k 16) 16 = Nat.mod (Nat.div j 16) 16 from h.symm]
    rw [e]
    by_cases h2 : j % 16 = k % 16
    · rw [if_pos h2, if_pos (by omega)]
    · rw [if_neg h2, if_neg (by omega)]
  · rw [if_neg h, if_neg]
    have h : ¬ j / 16 % 16 = k / 16 % 16 := h
    omega
theorem get3_put (j k : Nat) (v : Option α) (t : T3 α) : get3 α j (put3 α k v t) = if j % 4096 = k % 4096 then v else get3 α j t := by
  unfold get3 put3
  rw [dg_ok]
  by_cases h : Nat.div j 256 % 16 = Nat.div k 256 % 16
  · rw [if_pos h, get2_put]
    have h : j / 256 % 16 = k / 256 % 16 := h
    have e : (dg (T2 α) (Nat.div k 256)).sel t = (dg (T2 α) (Nat.div j 256)).sel t := by unfold dg; rw [show Nat.mod (Nat.div k 256) 16 = Nat.mod (Nat.div j 256) 16 from h.symm]
    rw [e]
    by_cases h2 : j % 256 = k % 256
    · rw [if_pos h2, if_pos (by omega)]
    · rw [if_neg h2, if_neg (by omega)]
  · rw [if_neg h, if_neg]
    have h : ¬ j / 256 % 16 = k / 256 % 16 := h
    omega
theorem get4_put (j k : Nat) (v : Option α) (t : T4 α) : get4 α j (put4 α k v t) = if j % 65536 = k % 65536 then v else get4 α j t := by
  unfold get4 put4
  rw [dg_ok]
  by_cases h : Nat.div j 4096 % 16 = Nat.div k 4096 % 16
  · rw [if_pos h, get3_put]
    have h : j / 4096 % 16 = k / 4096 % 16 := h
    have e : (dg (T3 α) (Nat.div k 4096)).sel t = (dg (T3 α) (Nat.div j 4096)).sel t := by unfold dg; rw [show Nat.mod (Nat.div k 4096) 16 = Nat.mod (Nat.div j 4096) 16 from h.symm]
    rw [e]
    by_cases h2 : j % 4096 = k % 4096
    · rw [if_pos h2, if_pos (by omega)]
    · rw [if_neg h2, if_neg (by omega)]
  · rw [if_neg h, if_neg]
    have h : ¬ j / 4096 % 16 = k / 4096 % 16 := h
    omega
end
structure Tr (α : Type) : Type where
  lo : T2 α
  hi : T4 α
  far : Bt α
noncomputable def Tr.e {α : Type} : Tr α := ⟨e2 α, e4 α, .e⟩
noncomputable def Tr.get {α : Type} (t : Tr α) (k : Nat) : Option α :=
  Bool.rec (motive := fun _ => Option α) (Bool.rec (motive := fun _ => Option α) (t.far.get k) (get4 α k t.hi) (Nat.ble k 65535)) (get2 α k t.lo) (Nat.ble k 255)
noncomputable def putLo (α : Type) (k : Nat) (v : Option α) (t : Tr α) : Tr α := Tr.rec (motive := fun _ => Tr α) (fun lo hi far => ⟨put2 α k v lo, hi, far⟩) t
noncomputable def putHi (α : Type) (k : Nat) (v : Option α) (t : Tr α) : Tr α := Tr.rec (motive := fun _ => Tr α) (fun lo hi far => ⟨lo, put4 α k v hi, far⟩) t
noncomputable def putFar (α : Type) (k : Nat) (v : Option α) (t : Tr α) : Tr α := Tr.rec (motive := fun _ => Tr α) (fun lo hi far => ⟨lo, hi, far.put k v⟩) t
noncomputable def Tr.put {α : Type} (t : Tr α) (k : Nat) (v : Option α) : Tr α :=
  Bool.rec (motive := fun _ => Tr α) (Bool.rec (motive := fun _ => Tr α) (putFar α k v t) (putHi α k v t) (Nat.ble k 65535)) (putLo α k v t) (Nat.ble k 255)
section
variable {α : Type}
theorem Tr.get_e (k : Nat) : (Tr.e : Tr α).get k = none := by
  unfold Tr.get Tr.e
  cases Nat.ble k 255 with
  | true => show get2 α k (e2 α) = none; unfold get2 e2; rw [nul_sel]; exact nul_sel _ _
  | false =>
    cases Nat.ble k 65535 with
    | true => show get4 α k (e4 α) = none; unfold get4 e4; rw [nul_sel]; unfold get3 e3; rw [nul_sel]; unfold get2 e2; rw [nul_sel]; exact nul_sel _ _
    | false => rfl
theorem Tr.get_eq (t : Tr α) (k : Nat) : t.get k = if k ≤ 255 then get2 α k t.lo else if k ≤ 65535 then get4 α k t.hi else t.far.get k := by
  unfold Tr.get
  cases h : Nat.ble k 255 with
  | true => rw [if_pos (Nat.le_of_ble_eq_true h)]
  | false =>
    have h1 : ¬ k ≤ 255 := fun h2 => by rw [Nat.ble_eq_true_of_le h2] at h; cases h
    rw [if_neg h1]
    cases h3 : Nat.ble k 65535 with
    | true => rw [if_pos (Nat.le_of_ble_eq_true h3)]
    | false =>
      have h4 : ¬ k ≤ 65535 := fun h2 => by rw [Nat.ble_eq_true_of_le h2] at h3; cases h3
      rw [if_neg h4]
theorem Tr.get_put (t : Tr α) (k : Nat) (v : Option α) (j : Nat) : (t.put k v).get j = if j = k then v else t.get j := by
  obtain ⟨lo, hi, far⟩ := t
  rw [Tr.get_eq, Tr.get_eq]
  unfold Tr.put
  cases h : Nat.ble k 255 with
  | true =>
    have h := Nat.le_of_ble_eq_true h
    show (if j ≤ 255 then get2 α j (put2 α k v lo) else if j ≤ 65535 then get4 α j hi else far.get j) = _
    by_cases h1 : j ≤ 255
    · rw [if_pos h1, if_pos h1, get2_put]
      by_cases e : j = k
      · subst e; rw [if_pos rfl, if_pos rfl]
      · rw [if_neg (by omega), if_neg e]
    · rw [if_neg h1, if_neg h1, if_neg (show ¬ j = k by omega)]
  | false =>
    have h0 : ¬ k ≤ 255 := fun h2 => by rw [Nat.ble_eq_true_of_le h2] at h; cases h
    cases h3 : Nat.ble k 65535 with
    | true =>
      have h3 := Nat.le_of_ble_eq_true h3
      show (if j ≤ 255 then get2 α j lo else if j ≤ 65535 then get4 α j (put4 α k v hi) else far.get j) = _
      by_cases h1 : j ≤ 255
      · rw [if_pos h1, if_pos h1, if_neg (by omega)]
      · rw [if_neg h1, if_neg h1]
        by_cases h2 : j ≤ 65535
        · rw [if_pos h2, if_pos h2, get4_put]
          by_cases e : j = k
          · subst e; rw [if_pos rfl, if_pos rfl]
          · rw [if_neg (by omega), if_neg e]
        · rw [if_neg h2, if_neg h2, if_neg (show ¬ j = k by omega)]
    | false =>
      have h4 : ¬ k ≤ 65535 := fun h2 => by rw [Nat.ble_eq_true_of_le h2] at h3; cases h3
      show (if j ≤ 255 then get2 α j lo else if j ≤ 65535 then get4 α j hi else (far.put k v).get j) = _
      by_cases h1 : j ≤ 255
      · rw [if_pos h1, if_pos h1, if_neg (show ¬ j = k by omega)]
      · rw [if_neg h1, if_neg h1]
        by_cases h2 : j ≤ 65535
        · rw [if_pos h2, if_pos h2, if_neg (show ¬ j = k by omega)]
        · rw [if_neg h2, if_neg h2, Bt.get_put]
end
end Vx
