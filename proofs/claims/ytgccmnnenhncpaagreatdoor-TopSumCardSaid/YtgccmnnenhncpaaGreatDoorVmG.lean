/-
  The evaluator: known calls: heaps that lie in heaps.
-/
import Derived.Test.YtgccmnnenhncpaaGreatDoorVmF
/-! Heaps that lie in heaps: what a call comes to over a small heap, it comes to over every heap that holds the small one, in whatever numbers. -/
namespace Vx
open Go Go.RowKit

/-! ### Values that are alike but for their blocks' numbers -/
mutual
inductive VM (R : Nat → Nat → Prop) : AV → AV → Prop
  | bool {b : Bool} : VM R (.bool b) (.bool b)
  | int {k : IntKind} {e : SE} : VM R (.int k e) (.int k e)
  | float {k : FloatKind} {b : Nat} : VM R (.float k b) (.float k b)
  | str {s : ByteArray} : VM R (.str s) (.str s)
  | ustr {l : List SE} : VM R (.ustr l) (.ustr l)
  | ptr {k k' o : Nat} (h : R k k') : VM R (.ptr k o) (.ptr k' o)
  | nilp : VM R .nilp .nilp
  | sl {k k' o len cap esz : Nat} (h : R k k') : VM R (.sl k o len cap esz) (.sl k' o len cap esz)
  | nils : VM R .nils .nils
  | mp {k k' : Nat} (h : R k k') : VM R (.mp k) (.mp k')
  | nilm : VM R .nilm .nilm
  | fn {f : FuncId} {a a' c c' : List AV} (h1 : VMs R a a') (h2 : VMs R c c') : VM R (.fn f a c) (.fn f a' c')
  | nilf : VM R .nilf .nilf
  | ifc {t : TypeId} {v v' : AV} (h : VM R v v') : VM R (.ifc t v) (.ifc t v')
  | nili : VM R .nili .nili
  | agg {l l' : List AV} (h : VMs R l l') : VM R (.agg l) (.agg l')
  | tup {l l' : List AV} (h : VMs R l l') : VM R (.tup l) (.tup l')
  | sle {k k' o : Nat} (h : R k k') : VM R (.sle k o) (.sle k' o)
  | nan {k : FloatKind} : VM R (.nan k) (.nan k)
  | anys : VM R .anys .anys
  | inp {e : SE} {m : Nat} : VM R (.inp e m) (.inp e m)
  | xp {j : Nat} : VM R (.xp j) (.xp j)
  | ostr {i : Nat} : VM R (.ostr i) (.ostr i)
  | zstr {i : Nat} : VM R (.zstr i) (.zstr i)
  | cstr {e : SE} {l : List ByteArray} : VM R (.cstr e l) (.cstr e l)
  | pel {k k' o m z : Nat} {e : SE} (h : R k k') : VM R (.pel k o e m z) (.pel k' o e m z)
  | yld {k k' : Nat} (h : R k k') : VM R (.yld k) (.yld k')
  | meth {name : String} {t : TypeId} {v v' : AV} (h : VM R v v') : VM R (.meth name t v) (.meth name t v')
inductive VMs (R : Nat → Nat → Prop) : List AV → List AV → Prop
  | nil : VMs R [] []
  | cons {v v' : AV} {l l' : List AV} (h : VM R v v') (hs : VMs R l l') : VMs R (v :: l) (v' :: l')
end
section
variable {R R' : Nat → Nat → Prop} {μ μ0 : Mu} {ρ : Env}
mutual
theorem VM.mono (hR : ∀ a b, R a b → R' a b) : ∀ {v v' : AV}, VM R v v' → VM R' v v'
  | _, _, .bool => .bool
  | _, _, .int => .int
  | _, _, .float => .float
  | _, _, .str => .str
  | _, _, .ustr => .ustr
  | _, _, .ptr h => .ptr (hR _ _ h)
  | _, _, .nilp => .nilp
  | _, _, .sl h => .sl (hR _ _ h)
  | _, _, .nils => .nils
  | _, _, .mp h => .mp (hR _ _ h)
  | _, _, .nilm => .nilm
  | _, _, .fn h1 h2 => .fn (VMs.mono hR h1) (VMs.mono hR h2)
  | _, _, .nilf => .nilf
  | _, _, .ifc h => .ifc (VM.mono hR h)
  | _, _, .nili => .nili
  | _, _, .agg h => .agg (VMs.mono hR h)
  | _, _, .tup h => .tup (VMs.mono hR h)
  | _, _, .sle h => .sle (hR _ _ h)
  | _, _, .nan => .nan
  | _, _, .anys => .anys
  | _, _, .inp => .inp
  | _, _, .xp => .xp
  | _, _, .ostr => .ostr
  | _, _, .zstr => .zstr
  | _, _, .cstr => .cstr
  | _, _, .pel h => .pel (hR _ _ h)
  | _, _, .yld h => .yld (hR _ _ h)
  | _, _, .meth h => .meth (VM.mono hR h)
theorem VMs.mono (hR : ∀ a b, R a b → R' a b) : ∀ {v v' : List AV}, VMs R v v' → VMs R' v v'
  | _, _, .nil => .nil
  | _, _, .cons h hs => .cons (VM.mono hR h) (VMs.mono hR hs)
end
mutual
theorem VM.symm : ∀ {v v' : AV}, VM R v v' → VM (fun a b => R b a) v' v
  | _, _, .bool => .bool
  | _, _, .int => .int
  | _, _, .float => .float
  | _, _, .str => .str
  | _, _, .ustr => .ustr
  | _, _, .ptr h => .ptr h
  | _, _, .nilp => .nilp
  | _, _, .sl h => .sl h
  | _, _, .nils => .nils
  | _, _, .mp h => .mp h
  | _, _, .nilm => .nilm
  | _, _, .fn h1 h2 => .fn (VMs.symm h1) (VMs.symm h2)
  | _, _, .nilf => .nilf
  | _, _, .ifc h => .ifc (VM.symm h)
  | _, _, .nili => .nili
  | _, _, .agg h => .agg (VMs.symm h)
  | _, _, .tup h => .tup (VMs.symm h)
  | _, _, .sle h => .sle h
  | _, _, .nan => .nan
  | _, _, .anys => .anys
  | _, _, .inp => .inp
  | _, _, .xp => .xp
  | _, _, .ostr => .ostr
  | _, _, .zstr => .zstr
  | _, _, .cstr => .cstr
  | _, _, .pel h => .pel h
  | _, _, .yld h => .yld h
  | _, _, .meth h => .meth (VM.symm h)
theorem VMs.symm : ∀ {v v' : List AV}, VMs R v v' → VMs (fun a b => R b a) v' v
  | _, _, .nil => .nil
  | _, _, .cons h hs => .cons (VM.symm h) (VMs.symm hs)
end
mutual
/-- What stands for a value by the one's numbers, stands for it by the other's. -/
theorem VM.vr (hR : ∀ a b, R a b → ∀ x, μ b = some x → μ0 a = some x) : ∀ {v0 v : AV}, VM R v0 v → ∀ {u : Value}, VR μ ρ v u → VR μ0 ρ v0 u
  | _, _, .bool, _, .bool => .bool
  | _, _, .int, _, .int h => .int h
  | _, _, .float, _, .float => .float
  | _, _, .str, _, .str => .str
  | _, _, .ustr, _, .ustr h => .ustr h
  | _, _, .ptr h, _, .ptr h' => .ptr (hR _ _ h _ h')
  | _, _, .nilp, _, .nilp => .nilp
  | _, _, .sl h, _, .sl h' h1 h2 h3 => .sl (hR _ _ h _ h') h1 h2 h3
  | _, _, .nils, _, .nils => .nils
  | _, _, .mp h, _, .mp h' => .mp (hR _ _ h _ h')
  | _, _, .nilm, _, .nilm => .nilm
  | _, _, .fn h1 h2, _, .fn h1' h2' => .fn (VMs.vr hR h1 h1') (VMs.vr hR h2 h2')
  | _, _, .nilf, _, .nilf => .nilf
  | _, _, .ifc h, _, .ifc h' => .ifc (VM.vr hR h h')
  | _, _, .nili, _, .nili => .nili
  | _, _, .agg h, _, .agg h' => .agg (VMs.vr hR h h')
  | _, _, .tup h, _, .tup h' => .tup (VMs.vr hR h h')
  | _, _, .sle h, _, .sle h' => .sle (hR _ _ h _ h')
  | _, _, .nan, _, .nan h' => .nan h'
  | _, _, .anys, _, .anys => .anys
  | _, _, .inp, _, .inp h hm hx => .inp h hm hx
  | _, _, .xp, _, .xp h => .xp h
  | _, _, .ostr, _, .ostr h => .ostr h
  | _, _, .zstr, _, .zstr h => .zstr h
  | _, _, .cstr, _, .cstr h hs => .cstr h hs
  | _, _, .pel h, _, .pel h' he hi => .pel (hR _ _ h _ h') he hi
  | _, _, .yld h, _, .yld h' => .yld (hR _ _ h _ h')
  | _, _, .meth h, _, .meth h' => .meth (VM.vr hR h h')
theorem VMs.vr (hR : ∀ a b, R a b → ∀ x, μ b = some x → μ0 a = some x) : ∀ {v0 v : List AV}, VMs R v0 v → ∀ {u : List Value}, VRs μ ρ v u → VRs μ0 ρ v0 u
  | _, _, .nil, _, .nil => .nil
  | _, _, .cons h hs, _, .cons h' hs' => .cons (VM.vr hR h h') (VMs.vr hR hs hs')
end
/-- Objects that are alike but for their blocks' numbers. -/
inductive OM (R : Nat → Nat → Prop) : AObj → AObj → Prop
  | cells {c c' : Tr AV} {d d' : AV} {n : Nat} {e : TypeId} (h : ∀ i, i < n → VM R (cget c d i) (cget c' d' i)) : OM R (.cells c d n e) (.cells c' d' n e)
  | map {es es' : List (AV × AV)} (h1 : VMs R (es.map Prod.fst) (es'.map Prod.fst)) (h2 : VMs R (es.map Prod.snd) (es'.map Prod.snd)) : OM R (.map es) (.map es')
  | dfr : OM R .dfr .dfr
  | siter {s : ByteArray} {p : Nat} : OM R (.siter s p) (.siter s p)
theorem OM.mono (hR : ∀ a b, R a b → R' a b) {o o' : AObj} (h : OM R o o') : OM R' o o' := by
  cases h with
  | cells h => exact .cells fun i hi => (h i hi).mono hR
  | map h1 h2 => exact .map (h1.mono hR) (h2.mono hR)
  | dfr => exact .dfr
  | siter => exact .siter
theorem OM.symm {o o' : AObj} (h : OM R o o') : OM (fun a b => R b a) o' o := by
  cases h with
  | cells h => exact .cells fun i hi => (h i hi).symm
  | map h1 h2 => exact .map h1.symm h2.symm
  | dfr => exact .dfr
  | siter => exact .siter
theorem OM.or (hR : ∀ a b, R a b → ∀ x, μ b = some x → μ0 a = some x) {o0 o : AObj} (h : OM R o0 o) {n : Nat} {x : Obj} (ho : OR μ ρ n x o) : OR μ0 ρ n x o0 := by
  cases h with
  | cells h =>
    obtain ⟨a, h1, h2, h3, h4⟩ := ho
    exact ⟨a, h1, h2, h3, fun i hi => let ⟨v, h5, h6⟩ := h4 i hi; ⟨v, h5, (h i hi).vr hR h6⟩⟩
  | map g1 g2 =>
    obtain ⟨l, c, h1, h2, h3⟩ := ho
    exact ⟨l, c, h1, g1.vr hR h2, g2.vr hR h3⟩
  | dfr => exact ho
  | siter => exact ho
end

/-! ### Numbers that are paired -/
structure Pi : Type where
  f : Tr Nat
  g : Tr Nat
  n : Nat
noncomputable def uniK (p : Pi) (a b : Nat) : Option Pi :=
  match p.f.get a with
  | some b' => match Nat.beq b' b with
    | true => some p
    | false => none
  | none => match p.g.get b with
    | some _ => none
    | none => match Nat.ble (Nat.succ a) p.n with
      | true => some ⟨p.f.put a (some b), p.g.put b (some a), p.n⟩
      | false => none
def Pi.R (p : Pi) (a b : Nat) : Prop := p.f.get a = some b
structure Pi.le (p q : Pi) : Prop where
  le : ∀ a b, p.R a b → q.R a b
  n : q.n = p.n
structure Pi.OK (p : Pi) : Prop where
  inv : ∀ a b, p.f.get a = some b → p.g.get b = some a
  lt : ∀ a b, p.R a b → a < p.n
theorem Pi.OK.inj {p : Pi} (h : p.OK) {a a' b : Nat} (h1 : p.R a b) (h2 : p.R a' b) : a = a' := by
  have e1 := h.inv _ _ h1
  rw [h.inv _ _ h2] at e1
  exact (Option.some.inj e1).symm
noncomputable def pi0 (n : Nat) : Pi := ⟨.e, .e, n⟩
theorem pi0_ok (n : Nat) : (pi0 n).OK := by
  refine ⟨fun a b h => ?_, fun a b h => ?_⟩
  · simp only [pi0, Tr.get_e] at h; cases h
  · simp only [Pi.R, pi0, Tr.get_e] at h; cases h
theorem uniK_ok {p q : Pi} {a b : Nat} (h : uniK p a b = some q) (hp : p.OK) : q.OK ∧ p.le q ∧ q.R a b := by
  unfold uniK at h
  split at h
  · rename_i b' hb
    split at h
    · rename_i he
      cases h
      exact ⟨hp, ⟨fun _ _ h => h, rfl⟩, by rw [Nat.eq_of_beq_eq_true he] at hb; exact hb⟩
    · cases h
  · rename_i hf
    split at h
    · cases h
    · rename_i hg
      split at h
      · rename_i hn
        cases h
        refine ⟨⟨fun x y hxy => ?_, fun x y hxy => ?_⟩, ⟨fun x y hxy => ?_, rfl⟩, ?_⟩
        · simp only [Tr.get_put] at hxy ⊢
          by_cases e : x = a
          · rw [if_pos e] at hxy
            cases hxy
            rw [if_pos rfl, e]
          · rw [if_neg e] at hxy
            have := hp.inv _ _ hxy
            by_cases e' : y = b
            · subst e'; rw [hg] at this; cases this
            · rw [if_neg e']; exact this
        · unfold Pi.R at hxy
          simp only [Tr.get_put] at hxy
          by_cases e : x = a
          · subst e; exact Nat.le_of_ble_eq_true hn
          · rw [if_neg e] at hxy; exact hp.lt _ _ hxy
        · unfold Pi.R at *
          simp only [Tr.get_put]
          by_cases e : x = a
          · subst e; rw [hf] at hxy; cases hxy
          · rw [if_neg e]; exact hxy
        · unfold Pi.R
          simp only [Tr.get_put, if_true]
      · cases h
theorem Pi.le_refl (p : Pi) : p.le p := ⟨fun _ _ h => h, rfl⟩
theorem Pi.le.le_trans {p q r : Pi} (h : p.le q) (h' : q.le r) : p.le r := ⟨fun a b hab => h'.le a b (h.le a b hab), h'.n.trans h.n⟩

/-! ### Values are gone over together -/
mutual
noncomputable def uniV (a b : AV) (p : Pi) : Option Pi :=
  match a, b with
  | .bool x, .bool y => match Bool.rec (motive := fun _ => Bool) (not y) y x with
    | true => some p
    | false => none
  | .int k x, .int k' y => match kindB k k' with
    | true => match seEq x y with
      | true => some p
      | false => none
    | false => none
  | .float k x, .float k' y => match fkEq k k' with
    | true => match Nat.beq x y with
      | true => some p
      | false => none
    | false => none
  | .str s, .str u => match bytesB s.data.toList u.data.toList with
    | true => some p
    | false => none
  | .ustr l, .ustr r => match sesEq l r with
    | true => some p
    | false => none
  | .ptr k o, .ptr k' o' => match Nat.beq o o' with
    | true => uniK p k k'
    | false => none
  | .nilp, .nilp => some p
  | .sl k o l c e, .sl k' o' l' c' e' => match Nat.beq o o' with
    | true => match Nat.beq l l' with
      | true => match Nat.beq c c' with
        | true => match Nat.beq e e' with
          | true => uniK p k k'
          | false => none
        | false => none
      | false => none
    | false => none
  | .nils, .nils => some p
  | .mp k, .mp k' => uniK p k k'
  | .nilm, .nilm => some p
  | .fn f a c, .fn f' a' c' => match Nat.beq f f' with
    | true => match uniVs a a' p with
      | some q => uniVs c c' q
      | none => none
    | false => none
  | .nilf, .nilf => some p
  | .nili, .nili => some p
  | .ifc t v, .ifc t' v' => match Nat.beq t t' with
    | true => uniV v v' p
    | false => none
  | .agg l, .agg l' => uniVs l l' p
  | .tup l, .tup l' => uniVs l l' p
  | .sle k o, .sle k' o' => match Nat.beq o o' with
    | true => uniK p k k'
    | false => none
  | .anys, .anys => some p
  | .ostr i, .ostr j => match Nat.beq i j with
    | true => some p
    | false => none
  | .zstr i, .zstr j => match Nat.beq i j with
    | true => some p
    | false => none
  | .cstr e l, .cstr e' l' => match seEq e e' with
    | true => match bassEq l l' with
      | true => some p
      | false => none
    | false => none
  | _, _ => none
noncomputable def uniVs (a b : List AV) (p : Pi) : Option Pi :=
  match a, b with
  | [], [] => some p
  | x :: r, y :: s => match uniV x y p with
    | some q => uniVs r s q
    | none => none
  | _, _ => none
end
theorem bytesB_ok {l r : List UInt8} (h : bytesB l r = true) : l = r := by rw [bytesB_eq] at h; exact eq_of_beq h
theorem ba_eq {s u : ByteArray} (h : s.data.toList = u.data.toList) : s = u := by
  cases s; cases u
  simp only at h
  rw [Array.toList_inj.1 h]
mutual
theorem uniV_ok : ∀ (a b : AV) (p q : Pi), uniV a b p = some q → p.OK → q.OK ∧ p.le q ∧ VM q.R a b := by
  intro a b p q h hp
  cases a <;> cases b <;> simp only [uniV, reduceCtorEq] at h
  case bool.bool x y =>
    cases x <;> cases y <;> simp at h <;> (subst h; exact ⟨hp, p.le_refl, .bool⟩)
  case int.int k x k' y =>
    split at h
    · rename_i e1
      split at h
      · rename_i e2
        cases h
        rw [kindB_eq e1, seEq_eq _ _ e2]
        exact ⟨hp, p.le_refl, .int⟩
      · cases h
    · cases h
  case float.float k x k' y =>
    split at h
    · rename_i e1
      split at h
      · rename_i e2
        cases h
        rw [fkEq_ok e1, Nat.eq_of_beq_eq_true e2]
        exact ⟨hp, p.le_refl, .float⟩
      · cases h
    · cases h
  case str.str s u =>
    split at h
    · rename_i e1
      cases h
      rw [ba_eq (bytesB_ok e1)]
      exact ⟨hp, p.le_refl, .str⟩
    · cases h
  case ustr.ustr l r =>
    split at h
    · rename_i e1
      cases h
      rw [sesEq_eq _ _ e1]
      exact ⟨hp, p.le_refl, .ustr⟩
    · cases h
  case ptr.ptr k o k' o' =>
    split at h
    · rename_i e1
      rw [Nat.eq_of_beq_eq_true e1]
      obtain ⟨h1, h2, h3⟩ := uniK_ok h hp
      exact ⟨h1, h2, .ptr h3⟩
    · cases h
  case nilp.nilp => cases h; exact ⟨hp, p.le_refl, .nilp⟩
  case sl.sl k o l c e k' o' l' c' e' =>
    split at h
    · rename_i e1
      split at h
      · rename_i e2
        split at h
        · rename_i e3
          split at h
          · rename_i e4
            rw [Nat.eq_of_beq_eq_true e1, Nat.eq_of_beq_eq_true e2, Nat.eq_of_beq_eq_true e3, Nat.eq_of_beq_eq_true e4]
            obtain ⟨h1, h2, h3⟩ := uniK_ok h hp
            exact ⟨h1, h2, .sl h3⟩
          · cases h
        · cases h
      · cases h
    · cases h
  case nils.nils => cases h; exact ⟨hp, p.le_refl, .nils⟩
  case mp.mp => obtain ⟨h1, h2, h3⟩ := uniK_ok h hp; exact ⟨h1, h2, .mp h3⟩
  case nilm.nilm => cases h; exact ⟨hp, p.le_refl, .nilm⟩
  case fn.fn f a c f' a' c' =>
    split at h
    · rename_i e1
      split at h
      · rename_i q1 hq
        rw [Nat.eq_of_beq_eq_true e1]
        obtain ⟨h1, h2, h3⟩ := uniVs_ok a a' p q1 hq hp
        obtain ⟨h4, h5, h6⟩ := uniVs_ok c c' q1 q h h1
        exact ⟨h4, h2.le_trans h5, .fn (h3.mono h5.le) h6⟩
      · cases h
    · cases h
  case nilf.nilf => cases h; exact ⟨hp, p.le_refl, .nilf⟩
  case nili.nili => cases h; exact ⟨hp, p.le_refl, .nili⟩
  case ifc.ifc t v t' v' =>
    split at h
    · rename_i e1
      rw [Nat.eq_of_beq_eq_true e1]
      obtain ⟨h1, h2, h3⟩ := uniV_ok v v' p q h hp
      exact ⟨h1, h2, .ifc h3⟩
    · cases h
  case agg.agg l l' => obtain ⟨h1, h2, h3⟩ := uniVs_ok l l' p q h hp; exact ⟨h1, h2, .agg h3⟩
  case tup.tup l l' => obtain ⟨h1, h2, h3⟩ := uniVs_ok l l' p q h hp; exact ⟨h1, h2, .tup h3⟩
  case sle.sle k o k' o' =>
    split at h
    · rename_i e1
      rw [Nat.eq_of_beq_eq_true e1]
      obtain ⟨h1, h2, h3⟩ := uniK_ok h hp
      exact ⟨h1, h2, .sle h3⟩
    · cases h
  case anys.anys => cases h; exact ⟨hp, p.le_refl, .anys⟩
  case zstr.zstr i j =>
    split at h
    · rename_i e1
      cases h
      rw [Nat.eq_of_beq_eq_true e1]
      exact ⟨hp, p.le_refl, .zstr⟩
    · cases h
  case ostr.ostr i j =>
    split at h
    · rename_i e1
      cases h
      rw [Nat.eq_of_beq_eq_true e1]
      exact ⟨hp, p.le_refl, .ostr⟩
    · cases h
  case cstr.cstr e l e' l' =>
    split at h
    · rename_i e1
      split at h
      · rename_i e2
        cases h
        rw [seEq_eq _ _ e1, bassEq_eq _ _ e2]
        exact ⟨hp, p.le_refl, .cstr⟩
      · cases h
    · cases h
theorem uniVs_ok : ∀ (a b : List AV) (p q : Pi), uniVs a b p = some q → p.OK → q.OK ∧ p.le q ∧ VMs q.R a b := by
  intro a b p q h hp
  cases a <;> cases b <;> simp only [uniVs, reduceCtorEq] at h
  case nil.nil => cases h; exact ⟨hp, p.le_refl, .nil⟩
  case cons.cons x r y s =>
    split at h
    · rename_i q1 hq
      obtain ⟨h1, h2, h3⟩ := uniV_ok x y p q1 hq hp
      obtain ⟨h4, h5, h6⟩ := uniVs_ok r s q1 q h h1
      exact ⟨h4, h2.le_trans h5, .cons (h3.mono h5.le) h6⟩
    · cases h
end

/-! ### Objects are gone over together -/
noncomputable def uniC (c : Tr AV) (d : AV) (c' : Tr AV) (d' : AV) (m : Nat) : Pi → Option Pi :=
  Nat.rec (motive := fun _ => Pi → Option Pi) (fun p => some p) (fun i ih p => match ih p with
    | some q => uniV (cget c d i) (cget c' d' i) q
    | none => none) m
theorem uniC_ok {c : Tr AV} {d : AV} {c' : Tr AV} {d' : AV} : ∀ {m : Nat} {p q : Pi}, uniC c d c' d' m p = some q → p.OK → q.OK ∧ p.le q ∧ ∀ i, i < m → VM q.R (cget c d i) (cget c' d' i)
  | 0, p, q, h, hp => by cases h; exact ⟨hp, p.le_refl, fun i hi => by omega⟩
  | m + 1, p, q, h, hp => by
    have h : (match uniC c d c' d' m p with
      | some q => uniV (cget c d m) (cget c' d' m) q
      | none => none) = some q := h
    split at h
    · rename_i q1 hq
      obtain ⟨h1, h2, h3⟩ := uniC_ok hq hp
      obtain ⟨h4, h5, h6⟩ := uniV_ok _ _ _ _ h h1
      refine ⟨h4, h2.le_trans h5, fun i hi => ?_⟩
      by_cases e : i = m
      · subst e; exact h6
      · exact (h3 i (by omega)).mono h5.le
    · cases h
/-- Numbers, in great blocks. -/
noncomputable def bigI (a b : AV) : Bool :=
  match a, b with
  | .int k x, .int k' y => match kindB k k' with
    | true => seEq x y
    | false => false
  | _, _ => false
theorem bigI_ok {R : Nat → Nat → Prop} {a b : AV} (h : bigI a b = true) : VM R a b := by
  unfold bigI at h
  split at h
  · split at h
    · rename_i e
      rw [kindB_eq e, seEq_eq _ _ h]; exact .int
    · cases h
  · cases h
noncomputable def bigO (a b : Option AV) : Bool := Option.rec (motive := fun _ => Bool) (Option.rec (motive := fun _ => Bool) true (fun _ => false) b) (fun x => Option.rec (motive := fun _ => Bool) false (fun y => bigI x y) b) a
def BO (a b : Option AV) : Prop := bigO a b = true
noncomputable def e8 {β : Type} (g : β → β → Bool) (a b : N8 β) : Bool :=
  N8.rec (motive := fun _ => Bool) (fun a0 a1 a2 a3 a4 a5 a6 a7 => N8.rec (motive := fun _ => Bool) (fun b0 b1 b2 b3 b4 b5 b6 b7 =>
    ifb (g a0 b0) (ifb (g a1 b1) (ifb (g a2 b2) (ifb (g a3 b3) (ifb (g a4 b4) (ifb (g a5 b5) (ifb (g a6 b6) (g a7 b7) false) false) false) false) false) false) false) b) a
theorem ifb_and {x y : Bool} (h : ifb x y false = true) : x = true ∧ y = true := by cases x <;> cases y <;> first | exact ⟨rfl, rfl⟩ | cases h
theorem e8_ok {β : Type} {g : β → β → Bool} {a b : N8 β} (h : e8 g a b = true) (k : Nat) : g ((dg β k).sel a) ((dg β k).sel b) = true := by
  have hk : k % 8 < 8 := Nat.mod_lt _ (by omega)
  rw [dg_eq]
  generalize k % 8 = k at hk
  cases a; cases b
  have h : ifb _ (ifb _ (ifb _ (ifb _ (ifb _ (ifb _ (ifb _ _ false) false) false) false) false) false) false = true := h
  obtain ⟨h0, h⟩ := ifb_and h
  obtain ⟨h1, h⟩ := ifb_and h
  obtain ⟨h2, h⟩ := ifb_and h
  obtain ⟨h3, h⟩ := ifb_and h
  obtain ⟨h4, h⟩ := ifb_and h
  obtain ⟨h5, h⟩ := ifb_and h
  obtain ⟨h6, h7⟩ := ifb_and h
  have hk : k = 0 ∨ k = 1 ∨ k = 2 ∨ k = 3 ∨ k = 4 ∨ k = 5 ∨ k = 6 ∨ k = 7 := by omega
  rcases hk with rfl | rfl | rfl | rfl | rfl | rfl | rfl | rfl <;> assumption
noncomputable def eB : Bt AV → Bt AV → Bool
  | .e, .e => true
  | .n v l r, .n v' l' r' => match bigO v v' with
    | true => match eB l l' with
      | true => eB r r'
      | false => false
    | false => false
  | _, _ => false
theorem eB_ok : ∀ {a b : Bt AV}, eB a b = true → ∀ k, bigO (a.get k) (b.get k) = true
  | .e, .e, _, k => rfl
  | .e, .n .., h, _ => by cases h
  | .n .., .e, h, _ => by cases h
  | .n v l r, .n v' l' r', h, k => by
    simp only [eB] at h
    split at h
    · rename_i h1
      split at h
      · rename_i h2
        rw [Bt.get_n, Bt.get_n]
        split
        · exact h1
        · split
          · exact eB_ok h2 _
          · exact eB_ok h _
      · cases h
    · cases h
noncomputable def bigT (a b : Tr AV) : Bool :=
  ifb (e8 (e8 bigO) a.lo b.lo) (ifb (e8 (e8 (e8 bigO)) a.mid b.mid) (ifb (e8 (e8 (e8 (e8 bigO))) a.hi b.hi) (eB a.far b.far) false) false) false
theorem bigT_ok {a b : Tr AV} (h : bigT a b = true) (k : Nat) : bigO (a.get k) (b.get k) = true := by
  obtain ⟨h0, h⟩ := ifb_and h
  obtain ⟨h1, h⟩ := ifb_and h
  obtain ⟨h2, h3⟩ := ifb_and h
  rw [Tr.get_eq, Tr.get_eq]
  split
  · exact e8_ok (e8_ok h0 _) _
  · split
    · exact e8_ok (e8_ok (e8_ok h1 _) _) _
    · split
      · exact e8_ok (e8_ok (e8_ok (e8_ok h2 _) _) _) _
      · exact eB_ok h3 _
theorem big_cget {R : Nat → Nat → Prop} {c c' : Tr AV} {d d' : AV} (h : bigT c c' = true) (hd : bigI d d' = true) (i : Nat) : VM R (cget c d i) (cget c' d' i) := by
  have := bigT_ok h i
  unfold cget
  cases h1 : c.get i with
  | none =>
    cases h2 : c'.get i with
    | none => exact bigI_ok hd
    | some y => rw [h1, h2] at this; cases this
  | some x =>
    cases h2 : c'.get i with
    | none => rw [h1, h2] at this; cases this
    | some y => rw [h1, h2] at this; exact bigI_ok this
noncomputable def uniO (a b : AObj) (p : Pi) : Option Pi :=
  match a, b with
  | .cells c d n e, .cells c' d' n' e' => match Nat.beq n n' with
    | true => match Nat.beq e e' with
      | true => match Nat.ble n 512 with
        | true => uniC c d c' d' n p
        | false => match bigI d d' with
          | true => match bigT c c' with
            | true => some p
            | false => none
          | false => none
      | false => none
    | false => none
  | .map es, .map es' => match uniVs (es.map Prod.fst) (es'.map Prod.fst) p with
    | some q => uniVs (es.map Prod.snd) (es'.map Prod.snd) q
    | none => none
  | .dfr, .dfr => some p
  | .siter s i, .siter s' i' => match bytesB s.data.toList s'.data.toList with
    | true => match Nat.beq i i' with
      | true => some p
      | false => none
    | false => none
  | _, _ => none
theorem uniO_ok {a b : AObj} {p q : Pi} (h : uniO a b p = some q) (hp : p.OK) : q.OK ∧ p.le q ∧ OM q.R a b := by
  unfold uniO at h
  split at h
  · split at h
    · rename_i e1
      split at h
      · rename_i e2
        rw [Nat.eq_of_beq_eq_true e1, Nat.eq_of_beq_eq_true e2] at *
        split at h
        · obtain ⟨h1, h2, h3⟩ := uniC_ok h hp
          exact ⟨h1, h2, .cells h3⟩
        · split at h
          · rename_i e3
            split at h
            · rename_i e4
              cases h
              exact ⟨hp, p.le_refl, .cells fun i _ => big_cget e4 e3 i⟩
            · cases h
          · cases h
      · cases h
    · cases h
  · split at h
    · rename_i q1 hq
      obtain ⟨h1, h2, h3⟩ := uniVs_ok _ _ _ _ hq hp
      obtain ⟨h4, h5, h6⟩ := uniVs_ok _ _ _ _ h h1
      exact ⟨h4, h2.le_trans h5, .map (h3.mono h5.le) h6⟩
    · cases h
  · cases h; exact ⟨hp, p.le_refl, .dfr⟩
  · split at h
    · rename_i e1
      split at h
      · rename_i e2
        cases h
        rw [ba_eq (bytesB_ok e1), Nat.eq_of_beq_eq_true e2]
        exact ⟨hp, p.le_refl, .siter⟩
      · cases h
    · cases h
  · cases h

/-! ### Heaps -/
/-- The blocks of t numbered from i on, as many as m, are those that p pairs them with in H. -/
noncomputable def uniH (t : Tr AObj) (H : Heap) : Nat → Pi → Option Pi := fun m =>
  Nat.rec (motive := fun _ => Pi → Option Pi) (fun p => some p) (fun i ih p => match ih p with
    | some q => match t.get i with
      | none => some q
      | some o => match q.f.get i with
        | none => none
        | some k => match H.tr.get k with
          | none => none
          | some o' => uniO o o' q
    | none => none) m
theorem uniH_ok {t : Tr AObj} {H : Heap} : ∀ {m : Nat} {p q : Pi}, uniH t H m p = some q → p.OK → q.OK ∧ p.le q ∧ ∀ i o, i < m → t.get i = some o → ∃ k o', q.R i k ∧ H.tr.get k = some o' ∧ OM q.R o o'
  | 0, p, q, h, hp => by cases h; exact ⟨hp, p.le_refl, fun i _ hi => by omega⟩
  | m + 1, p, q, h, hp => by
    have h : (match uniH t H m p with
      | some q => match t.get m with
        | none => some q
        | some o => match q.f.get m with
          | none => none
          | some k => match H.tr.get k with
            | none => none
            | some o' => uniO o o' q
      | none => none) = some q := h
    split at h
    · rename_i q1 hq
      obtain ⟨h1, h2, h3⟩ := uniH_ok hq hp
      split at h
      · rename_i ht
        cases h
        refine ⟨h1, h2, fun i o hi ho => ?_⟩
        by_cases e : i = m
        · subst e; rw [ht] at ho; cases ho
        · exact h3 i o (by omega) ho
      · rename_i o ht
        split at h
        · cases h
        · rename_i k hk
          split at h
          · cases h
          · rename_i o' ho'
            obtain ⟨h4, h5, h6⟩ := uniO_ok h h1
            refine ⟨h4, h2.le_trans h5, fun i o1 hi ho1 => ?_⟩
            by_cases e : i = m
            · subst e
              rw [ht] at ho1; cases ho1
              exact ⟨k, o', h5.le _ _ hk, ho', h6⟩
            · obtain ⟨k1, o2, g1, g2, g3⟩ := h3 i o1 (by omega) ho1
              exact ⟨k1, o2, h5.le _ _ g1, g2, g3.mono h5.le⟩
    · cases h
noncomputable def Pi.mu (q : Pi) (μ : Mu) : Mu := fun k => (q.f.get k).bind μ
theorem Pi.mu_r {q : Pi} {μ : Mu} {a b : Nat} (h : q.R a b) {x : Nat × Nat} (hx : μ b = some x) : q.mu μ a = some x := by
  unfold Pi.mu; rw [h]; exact hx
theorem Pi.mu_inv {q : Pi} {μ : Mu} {a : Nat} {x : Nat × Nat} (h : q.mu μ a = some x) : ∃ b, q.R a b ∧ μ b = some x := by
  unfold Pi.mu at h
  cases e : q.f.get a with
  | none => rw [e] at h; cases h
  | some b => rw [e] at h; exact ⟨b, e, h⟩
/-- A heap that lies in another stands for the same world. -/
theorem GR.emb {G : Gd} {μ : Mu} {ρ : Env} {H H0 : Heap} {w : World} (hG : GR G μ ρ H w) {q : Pi} (hq : q.OK) (hn : q.n = H0.next)
    (he : ∀ k o, H0.tr.get k = some o → ∃ k' o', q.R k k' ∧ H.tr.get k' = some o' ∧ OM q.R o o') {B : Nat → Prop} (hB : ∀ b, G.blk b → B b) (hB2 : ∀ b, B b → b < w.heap.size)
    (hB3 : ∀ k o k' b n, H0.tr.get k = some o → q.R k k' → μ k' = some (b, n) → ¬ B b) : GR ⟨B, fun _ => False⟩ (q.mu μ) ρ H0 w := by
  refine ⟨fun k o hk => ?_, fun k1 k2 o1 o2 b n n' h1 h2 e1 e2 => ?_, fun k b n hk => ?_, hB2, fun _ h => h.elim, hG.inp.up hB⟩
  · obtain ⟨k', o', h1, h2, h3⟩ := he k o hk
    obtain ⟨b, n, x, g1, g2, g3, g4⟩ := hG.obj k' o' h2
    exact ⟨b, n, x, Pi.mu_r h1 g1, hB3 k o k' b n hk h1 g1, g3, OM.or (R := q.R) (μ := μ) (μ0 := q.mu μ) (fun a b h x hx => Pi.mu_r h hx) h3 g4⟩
  · obtain ⟨k1', o1', g1, g2, _⟩ := he k1 o1 h1
    obtain ⟨k2', o2', g3, g4, _⟩ := he k2 o2 h2
    obtain ⟨c1, f1, f2⟩ := Pi.mu_inv e1
    obtain ⟨c2, f3, f4⟩ := Pi.mu_inv e2
    have hc1 : c1 = k1' := Option.some.inj (f1.symm.trans g1)
    have hc2 : c2 = k2' := Option.some.inj (f3.symm.trans g3)
    subst hc1; subst hc2
    have := hG.inj _ _ _ _ _ _ _ g2 g4 f2 f4
    subst this
    exact hq.inj f1 f3
  · obtain ⟨c, f1, f2⟩ := Pi.mu_inv hk
    exact ⟨by rw [← hn]; exact hq.lt _ _ f1, (hG.dom _ _ _ f2).2⟩
end Vx

/-! Calls that are known: what a call comes to over a small heap ('Sum'), and so over every heap that holds it. -/
namespace Vx
open Go Go.RowKit

/-! ### Renaming -/
section
variable (r : Nat → Nat)
mutual
noncomputable def rnV (v : AV) : AV :=
  match v with
  | .ptr k o => .ptr (r k) o
  | .sl k o l c e => .sl (r k) o l c e
  | .mp k => .mp (r k)
  | .fn f a c => .fn f (rnVs a) (rnVs c)
  | .yld k => .yld (r k)
  | .ifc t v => .ifc t (rnV v)
  | .agg l => .agg (rnVs l)
  | .tup l => .tup (rnVs l)
  | .sle k o => .sle (r k) o
  | .meth n t v => .meth n t (rnV v)
  | .pel k o e m z => .pel (r k) o e m z
  | v => v
noncomputable def rnVs (l : List AV) : List AV :=
  match l with
  | [] => []
  | v :: l => rnV v :: rnVs l
end
mutual
theorem rnV_ok : ∀ (v : AV), VM (fun a b => r a = b) v (rnV r v)
  | .bool _ => .bool
  | .int .. => .int
  | .float .. => .float
  | .str _ => .str
  | .ustr _ => .ustr
  | .ptr .. => .ptr rfl
  | .nilp => .nilp
  | .sl .. => .sl rfl
  | .nils => .nils
  | .mp _ => .mp rfl
  | .nilm => .nilm
  | .fn _ a c => .fn (rnVs_ok a) (rnVs_ok c)
  | .yld _ => .yld rfl
  | .nilf => .nilf
  | .ifc _ v => .ifc (rnV_ok v)
  | .nili => .nili
  | .agg l => .agg (rnVs_ok l)
  | .tup l => .tup (rnVs_ok l)
  | .sle .. => .sle rfl
  | .nan _ => .nan
  | .meth _ _ v => .meth (rnV_ok v)
  | .anys => .anys
  | .inp .. => .inp
  | .xp _ => .xp
  | .ostr _ => .ostr
  | .zstr _ => .zstr
  | .cstr .. => .cstr
  | .pel .. => .pel rfl
theorem rnVs_ok : ∀ (l : List AV), VMs (fun a b => r a = b) l (rnVs r l)
  | [] => .nil
  | v :: l => .cons (rnV_ok v) (rnVs_ok l)
end
end
noncomputable def m8 {β : Type} (g : β → β) (a : N8 β) : N8 β := N8.rec (motive := fun _ => N8 β) (fun a0 a1 a2 a3 a4 a5 a6 a7 => ⟨g a0, g a1, g a2, g a3, g a4, g a5, g a6, g a7⟩) a
theorem m8_sel {β : Type} (g : β → β) (a : N8 β) (k : Nat) : (dg β k).sel (m8 g a) = g ((dg β k).sel a) := by
  have hk : k % 8 < 8 := Nat.mod_lt _ (by omega)
  rw [dg_eq]
  generalize k % 8 = k at hk
  cases a
  have hk : k = 0 ∨ k = 1 ∨ k = 2 ∨ k = 3 ∨ k = 4 ∨ k = 5 ∨ k = 6 ∨ k = 7 := by omega
  rcases hk with rfl | rfl | rfl | rfl | rfl | rfl | rfl | rfl <;> rfl
noncomputable def mO (g : AV → AV) (x : Option AV) : Option AV := Option.rec (motive := fun _ => Option AV) none (fun v => some (g v)) x
theorem mO_eq (g : AV → AV) (x : Option AV) : mO g x = x.map g := by cases x <;> rfl
noncomputable def mB (g : AV → AV) : Bt AV → Bt AV
  | .e => .e
  | .n v l r => .n (mO g v) (mB g l) (mB g r)
theorem mB_get (g : AV → AV) : ∀ (t : Bt AV) (k : Nat), (mB g t).get k = (t.get k).map g
  | .e, k => rfl
  | .n v l r, k => by
    rw [mB, Bt.get_n, Bt.get_n]
    split
    · exact mO_eq _ _
    · split
      · exact mB_get g l _
      · exact mB_get g r _
noncomputable def mT (g : AV → AV) (n : Nat) (t : Tr AV) : Tr AV :=
  match Nat.ble n 64 with
  | true => ⟨m8 (m8 (mO g)) t.lo, e3 AV, e4 AV, .e⟩
  | false => ⟨m8 (m8 (mO g)) t.lo, m8 (m8 (m8 (mO g))) t.mid, m8 (m8 (m8 (m8 (mO g)))) t.hi, mB g t.far⟩
theorem mT_get {g : AV → AV} {n : Nat} {t : Tr AV} {i : Nat} (hi : i < n) : (mT g n t).get i = (t.get i).map g := by
  unfold mT
  split
  · rename_i h
    have h := Nat.le_of_ble_eq_true h
    rw [Tr.get_eq, Tr.get_eq, if_pos (by omega), if_pos (by omega)]
    show get2 AV i (m8 (m8 (mO g)) t.lo) = _
    unfold get2 get1
    rw [m8_sel, m8_sel, mO_eq]
  · rw [Tr.get_eq, Tr.get_eq]
    split
    · show get2 AV i (m8 (m8 (mO g)) t.lo) = _
      unfold get2 get1
      rw [m8_sel, m8_sel, mO_eq]
    · split
      · show get3 AV i (m8 (m8 (m8 (mO g))) t.mid) = _
        unfold get3 get2 get1
        rw [m8_sel, m8_sel, m8_sel, mO_eq]
      · split
        · show get4 AV i (m8 (m8 (m8 (m8 (mO g)))) t.hi) = _
          unfold get4 get3 get2 get1
          rw [m8_sel, m8_sel, m8_sel, m8_sel, mO_eq]
        · exact mB_get _ _ _
noncomputable def rnE (r : Nat → Nat) : List (AV × AV) → List (AV × AV)
  | [] => []
  | (a, b) :: l => (rnV r a, rnV r b) :: rnE r l
theorem rnE_ok (r : Nat → Nat) : ∀ (l : List (AV × AV)), VMs (fun a b => r a = b) (l.map Prod.fst) ((rnE r l).map Prod.fst) ∧ VMs (fun a b => r a = b) (l.map Prod.snd) ((rnE r l).map Prod.snd)
  | [] => ⟨.nil, .nil⟩
  | (a, b) :: l => ⟨.cons (rnV_ok r a) (rnE_ok r l).1, .cons (rnV_ok r b) (rnE_ok r l).2⟩
noncomputable def rnO (r : Nat → Nat) (o : AObj) : AObj :=
  match o with
  | .cells c d n e => .cells (mT (rnV r) n c) (rnV r d) n e
  | .map es => .map (rnE r es)
  | o => o
noncomputable def noLoop (o : AObj) : Bool :=
  match o with
  | .loop .. => false
  | _ => true
theorem rnO_ok {r : Nat → Nat} {o : AObj} (h : noLoop o = true) : OM (fun a b => r a = b) o (rnO r o) := by
  cases o with
  | cells c d n e =>
    refine .cells fun i hi => ?_
    unfold cget
    rw [mT_get hi]
    cases c.get i with
    | none => exact rnV_ok r d
    | some v => exact rnV_ok r v
  | map es => exact .map (rnE_ok r es).1 (rnE_ok r es).2
  | loop => cases h
  | dfr => exact .dfr
  | siter => exact .siter

/-! ### Known calls -/
noncomputable def putL : List (Nat × Option AObj) → Tr AObj → Tr AObj
  | [], t => t
  | (k, o) :: l, t => putL l (t.put k o)
noncomputable def putO : List AObj → Nat → Tr AObj → Tr AObj
  | [], _, t => t
  | o :: l, i, t => putO l (Nat.succ i) (t.put i (some o))
theorem putO_get : ∀ (l : List AObj) (i : Nat) (t : Tr AObj) (k : Nat), (putO l i t).get k = if i ≤ k ∧ k < i + l.length then l[k - i]? else t.get k
  | [], i, t, k => by rw [if_neg (by simp only [List.length_nil]; omega)]; rfl
  | o :: l, i, t, k => by
    rw [putO, putO_get l, Tr.get_put]
    by_cases h : k = i
    · subst h
      rw [if_neg (by omega), if_pos rfl, if_pos (by simp)]
      simp
    · by_cases h1 : i ≤ k ∧ k < i + (o :: l).length
      · rw [if_pos h1, if_pos (by simp only [List.length_cons] at h1; omega)]
        have : k - i = (k - (i + 1)) + 1 := by omega
        rw [this, List.getElem?_cons_succ]
      · rw [if_neg h1, if_neg (by simp only [List.length_cons] at h1; omega), if_neg h]
structure Sum : Type where
  f : FuncId
  args : List AV
  objs : List AObj
  v : AV
  up : List (Nat × Option AObj)
  n1 : Nat
noncomputable def Sum.H0 (s : Sum) : Heap := ⟨putO s.objs 0 .e, s.objs.length⟩
noncomputable def Sum.H1 (s : Sum) : Heap := ⟨putL s.up (putO s.objs 0 .e), s.n1⟩
noncomputable def upWF (n1 : Nat) : List (Nat × Option AObj) → Bool
  | [] => true
  | (k, o) :: l => match Nat.ble (Nat.succ k) n1 with
    | true => match o with
      | none => upWF n1 l
      | some o => match noLoop o with
        | true => upWF n1 l
        | false => false
    | false => false
noncomputable def wfB (s : Sum) : Bool :=
  match Nat.ble s.objs.length s.n1 with
  | true => upWF s.n1 s.up
  | false => false
/-- What the call comes to. -/
def SumOK (P : Program) (ρ : Env) (s : Sum) : Prop := ∀ (B : Nat → Prop) (μ : Mu) (w : World) (args' : List Value), GR ⟨B, fun _ => False⟩ μ ρ s.H0 w → VRs μ ρ s.args args' → ∀ (c : Frame) (cs : List Frame),
  ∃ v' w' μ', Mu.le μ μ' ∧ VR μ' ρ s.v v' ∧ GR ⟨B, fun _ => False⟩ μ' ρ s.H1 w' ∧ Fr ⟨B, fun _ => False⟩ w w' ∧ Steps P (lone (Frame.enter P s.f args'.toArray .normal) (c :: cs) w) (lone (c.finish v') cs w')
noncomputable def rnk (q : Pi) (nx k : Nat) : Nat :=
  match Nat.ble (Nat.succ k) q.n with
  | true => og (q.f.get k) 0
  | false => Nat.add nx (Nat.sub k q.n)
noncomputable def putR (r : Nat → Nat) : List (Nat × Option AObj) → Tr AObj → Tr AObj
  | [], t => t
  | (k, o) :: l, t => putR r l (t.put (r k) (Option.rec (motive := fun _ => Option AObj) none (fun o => some (rnO r o)) o))
noncomputable def tryS (s : Sum) (args : List AV) (H : Heap) : Option (AV × Heap) :=
  match uniVs s.args args (pi0 s.objs.length) with
  | none => none
  | some p => match uniH (putO s.objs 0 .e) H s.objs.length p with
    | none => none
    | some q => some (rnV (rnk q H.next) s.v, ⟨putR (rnk q H.next) s.up H.tr, Nat.add H.next (Nat.sub s.n1 s.objs.length)⟩)
theorem putR_inv {r : Nat → Nat} {n1 : Nat} {Q : Nat → AObj → Prop} (hinj : ∀ a b, a < n1 → b < n1 → r a = r b → a = b) : ∀ {up : List (Nat × Option AObj)}, upWF n1 up = true → ∀ {t1 t : Tr AObj},
    (∀ k o, t.get k = some o → (∃ a o0, a < n1 ∧ r a = k ∧ t1.get a = some o0 ∧ OM (fun a b => r a = b) o0 o) ∨ (Q k o ∧ ∀ a, a < n1 → r a ≠ k)) →
    ∀ k o, (putR r up t).get k = some o → (∃ a o0, a < n1 ∧ r a = k ∧ (putL up t1).get a = some o0 ∧ OM (fun a b => r a = b) o0 o) ∨ (Q k o ∧ ∀ a, a < n1 → r a ≠ k)
  | [], _, _, _, h, k, o, hk => h k o hk
  | (a, x) :: l, hw, t1, t, h, k, o, hk => by
    simp only [upWF] at hw
    split at hw
    · rename_i ha
      have ha := Nat.le_of_ble_eq_true ha
      have hw2 : upWF n1 l = true ∧ ∀ y, x = some y → noLoop y = true := by
        cases x with
        | none => exact ⟨hw, fun _ h => by cases h⟩
        | some y =>
          dsimp only at hw
          split at hw
          · rename_i hy; exact ⟨hw, fun _ h => by cases h; exact hy⟩
          · cases hw
      refine putR_inv hinj (up := l) hw2.1 (t1 := t1.put a x) (t := t.put (r a) _) (fun k o hk => ?_) k o hk
      rw [Tr.get_put] at hk
      by_cases e : k = r a
      · rw [if_pos e] at hk
        cases x with
        | none => cases hk
        | some y =>
          cases hk
          exact .inl ⟨a, y, ha, e.symm, by rw [Tr.get_put, if_pos rfl], rnO_ok (hw2.2 y rfl)⟩
      · rw [if_neg e] at hk
        rcases h k o hk with ⟨a', o0, h1, h2, h3, h4⟩ | h2
        · exact .inl ⟨a', o0, h1, h2, by rw [Tr.get_put, if_neg (fun e' => e (by rw [← h2, e']))]; exact h3, h4⟩
        · exact .inr h2
    · cases hw
/-- What a call comes to over a small heap, it comes to over every heap that holds it. -/
theorem frame_ok {P : Program} {ρ : Env} {s : Sum} (hs : SumOK P ρ s) (hw : wfB s = true) {args : List AV} {H H' : Heap} {v : AV} (h : tryS s args H = some (v, H')) {G : Gd} {μ : Mu} {w : World} {args' : List Value} (hG : GR G μ ρ H w) (ha : VRs μ ρ args args') (c : Frame) (cs : List Frame) :
    ∃ v' w' μ', Mu.le μ μ' ∧ VR μ' ρ v v' ∧ GR G μ' ρ H' w' ∧ Fr G w w' ∧ Steps P (lone (Frame.enter P s.f args'.toArray .normal) (c :: cs) w) (lone (c.finish v') cs w') := by
  unfold tryS at h
  split at h
  · cases h
  · rename_i p hp
    split at h
    · cases h
    · rename_i q hq
      cases h
      obtain ⟨p1, p2, p3⟩ := uniVs_ok _ _ _ _ hp (pi0_ok _)
      obtain ⟨q1, q2, q3⟩ := uniH_ok hq p1
      have hn : q.n = s.objs.length := q2.n.trans p2.n
      have hget : ∀ k o, s.H0.tr.get k = some o → k < s.objs.length := fun k o hk => by
        have hk : (putO s.objs 0 .e).get k = some o := hk
        rw [putO_get] at hk
        by_cases e : 0 ≤ k ∧ k < 0 + s.objs.length
        · omega
        · rw [if_neg e, Tr.get_e] at hk; cases hk
      have hgot : ∀ k, k < s.objs.length → ∃ o, s.H0.tr.get k = some o := fun k hk => by
        show ∃ o, (putO s.objs 0 .e).get k = some o
        rw [putO_get, if_pos (by omega)]
        exact ⟨s.objs[k], by simp [hk]⟩
      have hemb : ∀ k o, s.H0.tr.get k = some o → ∃ k' o', q.R k k' ∧ H.tr.get k' = some o' ∧ OM q.R o o' := fun k o hk => q3 k o (hget k o hk) hk
      -- the blocks that the small heap has no part in
      let B : Nat → Prop := fun b => G.blk b ∨ ∃ k o n, H.tr.get k = some o ∧ (∀ a, a < s.objs.length → ¬ q.R a k) ∧ μ k = some (b, n)
      have hG0 : GR ⟨B, fun _ => False⟩ (q.mu μ) ρ s.H0 w := by
        refine hG.emb q1 hn hemb (fun b hb => .inl hb) (fun b hb => ?_) (fun k o k' b n hk hR hb hB => ?_)
        · rcases hb with hb | ⟨k, o, n, _, _, hk⟩
          · exact hG.glt b hb
          · exact (hG.dom _ _ _ hk).2
        · obtain ⟨k1, o1, g1, g2, g3⟩ := hemb k o hk
          have : k1 = k' := Option.some.inj (g1.symm.trans hR)
          subst this
          obtain ⟨b', n', x, f1, f2, _, _⟩ := hG.obj _ _ g2
          rw [hb] at f1; cases f1
          rcases hB with hB | ⟨k2, o2, n2, f3, f4, f5⟩
          · exact f2 hB
          · have := hG.inj _ _ _ _ _ _ _ f3 g2 f5 hb
            subst this
            exact f4 k (hget k o hk) hR
      obtain ⟨v', w', μ1, r1, r2, r3, r4, r5⟩ := hs B (q.mu μ) w args' hG0 (VMs.vr (R := q.R) (μ := μ) (μ0 := q.mu μ) (fun a b hab x hx => Pi.mu_r hab hx) (p3.mono q2.le) ha) c cs
      let μ' : Mu := fun k => if k < H.next then μ k else μ1 (s.objs.length + (k - H.next))
      have hle : Mu.le μ μ' := fun k x hk => by
        show (if k < H.next then μ k else _) = some x
        rw [if_pos (hG.dom k x.1 x.2 hk).1]; exact hk
      have hold : ∀ a, a < s.objs.length → ∃ k o x, q.R a k ∧ H.tr.get k = some o ∧ μ k = some x ∧ k < H.next ∧ rnk q H.next a = k ∧ μ1 a = some x := fun a ha => by
        obtain ⟨o, ho⟩ := hgot a ha
        obtain ⟨k, o', g1, g2, _⟩ := hemb a o ho
        obtain ⟨b, n, x, f1, _, _, _⟩ := hG.obj _ _ g2
        refine ⟨k, o', (b, n), g1, g2, f1, (hG.dom _ _ _ f1).1, ?_, r1 _ _ (Pi.mu_r g1 f1)⟩
        unfold rnk
        rw [hn, Nat.ble_eq_true_of_le ha]
        show og (q.f.get a) 0 = k
        rw [show q.f.get a = some k from g1]; rfl
      have hnew : ∀ a, ¬ a < s.objs.length → rnk q H.next a = H.next + (a - s.objs.length) := fun a ha => by
        unfold rnk
        rw [hn]
        cases e : Nat.ble (Nat.succ a) s.objs.length with
        | true => exact absurd (Nat.le_of_ble_eq_true e) ha
        | false => rfl
      have hR : ∀ a b, rnk q H.next a = b → ∀ x, μ1 a = some x → μ' b = some x := fun a b hab x hx => by
        subst hab
        by_cases e : a < s.objs.length
        · obtain ⟨k, o, y, g1, g2, g3, g4, g5, g6⟩ := hold a e
          rw [g5]
          rw [g6] at hx
          cases hx
          exact hle _ _ g3
        · rw [hnew a e]
          show (if H.next + (a - s.objs.length) < H.next then _ else μ1 (s.objs.length + (H.next + (a - s.objs.length) - H.next))) = some x
          rw [if_neg (by omega), show s.objs.length + (H.next + (a - s.objs.length) - H.next) = a by omega]
          exact hx
      have hR' : ∀ a b, (fun a b => rnk q H.next b = a) a b → ∀ x, μ1 b = some x → μ' a = some x := fun a b h => hR b a h
      have hinj : ∀ a b, a < s.n1 → b < s.n1 → rnk q H.next a = rnk q H.next b → a = b := fun a b _ _ hab => by
        by_cases e : a < s.objs.length
        · obtain ⟨k, o, y, g1, g2, g3, g4, g5, g6⟩ := hold a e
          by_cases e' : b < s.objs.length
          · obtain ⟨k', o', y', g1', g2', g3', g4', g5', g6'⟩ := hold b e'
            rw [g5, g5'] at hab
            subst hab
            exact q1.inj g1 g1'
          · rw [g5, hnew b e'] at hab; omega
        · by_cases e' : b < s.objs.length
          · obtain ⟨k', o', y', g1', g2', g3', g4', g5', g6'⟩ := hold b e'
            rw [g5', hnew a e] at hab; omega
          · rw [hnew a e, hnew b e'] at hab; omega
      have hwf : s.objs.length ≤ s.n1 ∧ upWF s.n1 s.up = true := by
        unfold wfB at hw
        split at hw
        · rename_i e; exact ⟨Nat.le_of_ble_eq_true e, hw⟩
        · cases hw
      have hQ := putR_inv (r := rnk q H.next) (n1 := s.n1) (Q := fun k o => H.tr.get k = some o ∧ ∀ a, a < s.objs.length → ¬ q.R a k) hinj hwf.2 (t1 := s.H0.tr) (t := H.tr) (fun k o hk => by
        by_cases e : ∃ a, a < s.objs.length ∧ q.R a k
        · obtain ⟨a, ha, hak⟩ := e
          obtain ⟨o0, ho0⟩ := hgot a ha
          obtain ⟨k1, o1, g1, g2, g3⟩ := hemb a o0 ho0
          have : k1 = k := Option.some.inj (g1.symm.trans hak)
          subst this
          rw [hk] at g2; cases g2
          obtain ⟨k2, o2, x2, f1, f2, f3, f4, f5, f6⟩ := hold a ha
          have : k2 = k1 := Option.some.inj (f1.symm.trans g1)
          subst this
          refine .inl ⟨a, o0, by omega, f5, ho0, ?_⟩
          refine g3.mono fun x y hxy => ?_
          have hlt : x < s.objs.length := by rw [← hn]; exact q1.lt _ _ hxy
          obtain ⟨k3, o3, x3, c1, c2, c3, c4, c5, c6⟩ := hold x hlt
          rw [c5]
          exact Option.some.inj (c1.symm.trans hxy)
        · refine .inr ⟨⟨hk, fun a ha hak => e ⟨a, ha, hak⟩⟩, fun a ha hak => ?_⟩
          by_cases e' : a < s.objs.length
          · obtain ⟨k2, o2, x2, f1, f2, f3, f4, f5, f6⟩ := hold a e'
            exact e ⟨a, e', by rw [f5] at hak; rw [← hak]; exact f1⟩
          · rw [hnew a e'] at hak
            obtain ⟨b, n, x, f1, _⟩ := hG.obj _ _ hk
            have := (hG.dom _ _ _ f1).1
            omega)
      have hFr : Fr G w w' := r4.mono fun b hb => .inl hb
      refine ⟨v', w', μ', hle, ((rnV_ok (rnk q H.next) s.v).symm).vr hR' r2, ⟨fun k o hk => ?_, fun k1 k2 o1 o2 b n n' h1 h2 e1 e2 => ?_, fun k b n hk => ?_, fun b hb => Nat.lt_of_lt_of_le (hG.glt b hb) r4.size, fun k hk => ?_, ?_⟩, hFr, r5⟩
      · rcases hQ k o hk with ⟨a, o0, g1, g2, g3, g4⟩ | ⟨⟨g1, g2⟩, g3⟩
        · obtain ⟨b, n, x, f1, f2, f3, f4⟩ := r3.obj a o0 g3
          exact ⟨b, n, x, hR _ _ g2 _ f1, fun hb => f2 (.inl hb), f3, g4.symm.or hR' f4⟩
        · obtain ⟨b, n, x, f1, f2, f3, f4⟩ := hG.obj k o g1
          exact ⟨b, n, x, hle _ _ f1, f2, (r4.block b (.inr ⟨k, o, n, g1, g2, f1⟩) (hG.dom _ _ _ f1).2).trans f3, f4.mono hle⟩
      · rcases hQ k1 o1 h1 with ⟨a, o0, g1, g2, g3, g4⟩ | ⟨⟨g1, g2⟩, g3⟩ <;> rcases hQ k2 o2 h2 with ⟨a', o0', g1', g2', g3', g4'⟩ | ⟨⟨g1', g2'⟩, g3'⟩
        · obtain ⟨b1, n1, x, f1, f2, f3, f4⟩ := r3.obj a o0 g3
          obtain ⟨b2, n2, x', f1', f2', f3', f4'⟩ := r3.obj a' o0' g3'
          rw [hR _ _ g2 _ f1] at e1; cases e1
          rw [hR _ _ g2' _ f1'] at e2; cases e2
          have := r3.inj _ _ _ _ _ _ _ g3 g3' f1 f1'
          rw [← g2, ← g2', this]
        · obtain ⟨b1, n1, x, f1, f2, f3, f4⟩ := r3.obj a o0 g3
          rw [hR _ _ g2 _ f1] at e1; cases e1
          obtain ⟨b2, n2, x', f1', f2', f3', f4'⟩ := hG.obj k2 o2 g1'
          rw [hle _ _ f1'] at e2; cases e2
          exact absurd (.inr ⟨k2, o2, _, g1', g2', f1'⟩) f2
        · obtain ⟨b1, n1, x, f1, f2, f3, f4⟩ := r3.obj a' o0' g3'
          rw [hR _ _ g2' _ f1] at e2; cases e2
          obtain ⟨b2, n2, x', f1', f2', f3', f4'⟩ := hG.obj k1 o1 g1
          rw [hle _ _ f1'] at e1; cases e1
          exact absurd (.inr ⟨k1, o1, _, g1, g2, f1'⟩) f2
        · obtain ⟨b1, n1, x, f1, f2, f3, f4⟩ := hG.obj k1 o1 g1
          obtain ⟨b2, n2, x', f1', f2', f3', f4'⟩ := hG.obj k2 o2 g1'
          rw [hle _ _ f1] at e1; cases e1
          rw [hle _ _ f1'] at e2; cases e2
          exact hG.inj _ _ _ _ _ _ _ g1 g1' f1 f1'
      · have hk : (if k < H.next then μ k else μ1 (s.objs.length + (k - H.next))) = some (b, n) := hk
        show k < H.next + (s.n1 - s.objs.length) ∧ _
        by_cases e : k < H.next
        · rw [if_pos e] at hk
          exact ⟨by omega, Nat.lt_of_lt_of_le (hG.dom _ _ _ hk).2 r4.size⟩
        · rw [if_neg e] at hk
          obtain ⟨d1, d2⟩ := r3.dom _ _ _ hk
          have d1 : s.objs.length + (k - H.next) < s.n1 := d1
          exact ⟨by omega, d2⟩
      · obtain ⟨d1, d2⟩ := hG.rid k hk
        refine ⟨Nat.lt_of_lt_of_le d1 (Nat.le_add_right _ _), ?_⟩
        show (if k < H.next then μ k else _) = none
        rw [if_pos d1]; exact d2
      · exact ⟨hG.inp.blk, r3.inp.cell⟩

/-! ### Known calls, looked up -/
noncomputable def hpL : List Sum → FuncId → List AV → Heap → Option (AV × Heap)
  | [], _, _, _ => none
  | s :: l, f, args, H => match Nat.beq s.f f with
    | true => match tryS s args H with
      | some x => some x
      | none => hpL l f args H
    | false => hpL l f args H
theorem hpL_ok {P : Program} {ρ : Env} : ∀ {l : List Sum}, (∀ s ∈ l, SumOK P ρ s ∧ wfB s = true) → ∀ (f : FuncId) (args : List AV) (H : Heap) (v : AV) (H' : Heap), hpL l f args H = some (v, H') → ∀ (G : Gd) (μ : Mu) (w : World) (args' : List Value), GR G μ ρ H w → VRs μ ρ args args' → ∀ (c : Frame) (cs : List Frame),
    ∃ v' w' μ', Mu.le μ μ' ∧ VR μ' ρ v v' ∧ GR G μ' ρ H' w' ∧ Fr G w w' ∧ Steps P (lone (Frame.enter P f args'.toArray .normal) (c :: cs) w) (lone (c.finish v') cs w')
  | [], _, _, _, _, _, _, h => by cases h
  | s :: l, hl, f, args, H, v, H', h => by
    simp only [hpL] at h
    have ih := hpL_ok (l := l) fun x hx => hl x (List.mem_cons_of_mem _ hx)
    split at h
    · rename_i hf
      have hf := Nat.eq_of_beq_eq_true hf
      subst hf
      split at h
      · rename_i x hx
        cases h
        obtain ⟨h1, h2⟩ := hl s List.mem_cons_self
        intro G μ w args' hG ha c cs
        exact frame_ok h1 h2 hx hG ha c cs
      · exact ih _ _ _ _ _ h
    · exact ih _ _ _ _ _ h
noncomputable def sD (D : Dec) (l : List Sum) : Dec := ⟨D.cmp, D.red, D.plug, D.ext, hpL l⟩
theorem sD_ok {P : Program} {ρ : Env} {D : Dec} (hD : D.OK P ρ) {l : List Sum} (hl : ∀ s ∈ l, SumOK P ρ s ∧ wfB s = true) : (sD D l).OK P ρ := ⟨hD.cmp, hD.red, hD.plug, hD.ext, hpL_ok hl⟩

/-! ### How a call is known: it is run once -/
noncomputable def piI (n m : Nat) : Pi := Nat.rec (motive := fun _ => Pi) ⟨.e, .e, m⟩ (fun i p => ⟨p.f.put i (some i), p.g.put i (some i), p.n⟩) n
theorem piI_n (n m : Nat) : (piI n m).n = m := by
  induction n with
  | zero => rfl
  | succ n ih => exact ih
theorem piI_f (n m k : Nat) : (piI n m).f.get k = if k < n then some k else none := by
  induction n with
  | zero => exact Tr.get_e k
  | succ n ih =>
    show ((piI n m).f.put n (some n)).get k = _
    rw [Tr.get_put, ih]
    by_cases e : k = n
    · subst e; rw [if_pos rfl, if_pos (by omega)]
    · rw [if_neg e]
      by_cases e' : k < n
      · rw [if_pos e', if_pos (by omega)]
      · rw [if_neg e', if_neg (by omega)]
theorem piI_g (n m k : Nat) : (piI n m).g.get k = if k < n then some k else none := by
  induction n with
  | zero => exact Tr.get_e k
  | succ n ih =>
    show ((piI n m).g.put n (some n)).get k = _
    rw [Tr.get_put, ih]
    by_cases e : k = n
    · subst e; rw [if_pos rfl, if_pos (by omega)]
    · rw [if_neg e]
      by_cases e' : k < n
      · rw [if_pos e', if_pos (by omega)]
      · rw [if_neg e', if_neg (by omega)]
theorem piI_ok {n m : Nat} (h : n ≤ m) : (piI n m).OK := by
  refine ⟨fun a b hab => ?_, fun a b hab => ?_⟩
  · rw [piI_f] at hab
    by_cases e : a < n
    · rw [if_pos e] at hab; cases hab
      rw [piI_g, if_pos e]
    · rw [if_neg e] at hab; cases hab
  · unfold Pi.R at hab
    rw [piI_f] at hab
    rw [piI_n]
    by_cases e : a < n
    · omega
    · rw [if_neg e] at hab; cases hab
noncomputable def isS {α : Type} (x : Option α) : Bool := Option.rec (motive := fun _ => Bool) false (fun _ => true) x
noncomputable def covB (s : Sum) (v : AV) (Hr : Heap) : Bool :=
  match uniV s.v v (piI s.objs.length s.n1) with
  | some q => isS (uniH s.H1.tr Hr s.n1 q)
  | none => false
noncomputable def sumR (s : Sum) (r : Option (FuncId × Fin' × Heap)) : Bool :=
  match r with
  | some (_, .ret v, Hr) => covB s v Hr
  | _ => false
/-- The run of a known call. -/
noncomputable def sumB (P : Program) (D : Dec) (n : Nat) (s : Sum) : Bool :=
  match wfB s with
  | true => match enterA P s.f s.args false with
    | some g => sumR s (runZS P D n (norm ⟨g, [], s.H0⟩))
    | none => false
  | false => false
theorem putL_lt {n1 : Nat} : ∀ {up : List (Nat × Option AObj)} {t : Tr AObj}, upWF n1 up = true → (∀ k o, t.get k = some o → k < n1) → ∀ k o, (putL up t).get k = some o → k < n1
  | [], _, _, h, k, o, hk => h k o hk
  | (a, x) :: l, t, hw, h, k, o, hk => by
    simp only [upWF] at hw
    split at hw
    · rename_i ha
      have ha := Nat.le_of_ble_eq_true ha
      have hw2 : upWF n1 l = true := by
        cases x with
        | none => exact hw
        | some y =>
          dsimp only at hw
          split at hw
          · exact hw
          · cases hw
      refine putL_lt (up := l) (t := t.put a x) hw2 (fun k o hk => ?_) k o hk
      rw [Tr.get_put] at hk
      by_cases e : k = a
      · omega
      · rw [if_neg e] at hk; exact h k o hk
    · cases hw
theorem sumB_ok {P : Program} {ρ : Env} (hmix : P.follows .mixedOrders = true) (hN : NoNG P) {D : Dec} (hD : D.OK P ρ) {n : Nat} {s : Sum} (h : sumB P D n s = true) : SumOK P ρ s ∧ wfB s = true := by
  unfold sumB at h
  split at h
  · rename_i hw
    refine ⟨?_, hw⟩
    split at h
    · rename_i g hg
      unfold sumR at h
      split at h
      · rename_i fn v Hr hr
        rw [runZS_eq] at hr
        intro B μ w args' hG ha c cs
        obtain ⟨g1, _⟩ := enter_ok hg ha
        obtain ⟨v', w', μ', r1, r2, r3, r4, r5⟩ := (runYS_ok hmix hD hN n).ret (c := c) (cs' := cs) ⟨g1, ⟨[], rfl, .nil⟩, hG⟩ hr
        unfold covB at h
        split at h
        · rename_i q hq
          have hwf : s.objs.length ≤ s.n1 ∧ upWF s.n1 s.up = true := by
            unfold wfB at hw
            split at hw
            · rename_i e; exact ⟨Nat.le_of_ble_eq_true e, hw⟩
            · cases hw
          obtain ⟨q1, q2, q3⟩ := uniV_ok _ _ _ _ hq (piI_ok hwf.1)
          cases hq2 : uniH s.H1.tr Hr s.n1 q with
          | none => rw [hq2] at h; cases h
          | some p =>
            obtain ⟨p1, p2, p3⟩ := uniH_ok hq2 q1
            have hn : p.n = s.n1 := p2.n.trans (q2.n.trans (piI_n _ _))
            have hlt : ∀ k o, s.H1.tr.get k = some o → k < s.n1 := putL_lt hwf.2 fun k o hk => by
              rw [putO_get] at hk
              by_cases e : 0 ≤ k ∧ k < 0 + s.objs.length
              · omega
              · rw [if_neg e, Tr.get_e] at hk; cases hk
            refine ⟨v', w', p.mu μ', fun k x hk => ?_, VM.vr (R := p.R) (μ := μ') (μ0 := p.mu μ') (fun a b hab x hx => Pi.mu_r hab hx) (q3.mono p2.le) r2, ?_, r4, r5⟩
            · have hk0 : k < s.objs.length := (hG.dom k x.1 x.2 hk).1
              exact Pi.mu_r (p2.le _ _ (q2.le k k (by unfold Pi.R; rw [piI_f, if_pos hk0]))) (r1 _ _ hk)
            · refine r3.emb p1 hn (fun k o hk => p3 k o (hlt k o hk) hk) (fun b hb => hb) r3.glt (fun k o k' b n hk hR hb => ?_)
              obtain ⟨k1, o1, g1, g2, _⟩ := p3 k o (hlt k o hk) hk
              have : k1 = k' := Option.some.inj (g1.symm.trans hR)
              subst this
              obtain ⟨b', n', x, f1, f2, _, _⟩ := r3.obj _ _ g2
              rw [hb] at f1; cases f1
              exact f2
        · cases h
      · cases h
    · cases h
  · cases h

/-! ### How heaps are written down -/
noncomputable def bs (l : List Nat) : ByteArray := ⟨⟨l.map UInt8.ofNat⟩⟩
noncomputable def putAL : List AV → Nat → Tr AV → Tr AV
  | [], _, t => t
  | v :: l, i, t => putAL l (Nat.succ i) (t.put i (some v))
noncomputable def putPL : List (Nat × AV) → Tr AV → Tr AV
  | [], t => t
  | (i, v) :: l, t => putPL l (t.put i (some v))
noncomputable def cl (e : TypeId) (l : List AV) : AObj := .cells (putAL l 0 .e) .nilp l.length e
noncomputable def cb (e n : Nat) (d : AV) (l : List (Nat × AV)) : AObj := .cells (putPL l .e) d n e
end Vx
