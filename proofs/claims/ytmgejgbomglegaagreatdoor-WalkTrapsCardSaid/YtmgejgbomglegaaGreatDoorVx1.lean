/-
  The evaluator's words: tries, symbolic whole numbers, abstract values; how an abstract value stands for a value of the model ('VR').
-/
import Derived.WalkKit
import Derived.WalkSpells
import Derived.WalkSmall
import Derived.Test.YtmgejgbomglegaaGreatDoorVx0
namespace Vx
open Go

/-! ### Bools -/
noncomputable abbrev ifb {α : Type} (b : Bool) (x y : α) : α := Bool.rec (motive := fun _ => α) y x b
theorem ifb_true {α : Type} (x y : α) : ifb true x y = x := rfl
theorem ifb_false {α : Type} (x y : α) : ifb false x y = y := rfl

/-! ### Whole numbers: known, or not -/
inductive SE : Type where
  | lit (n : Int)
  | var (i : Nat)
  | bin (op : BinOp) (k : IntKind) (a b : SE)
  | conv (k : IntKind) (a : SE)
/-- What an operation that cannot panic comes to. -/
def binVal (op : BinOp) (k : IntKind) (x y : Int) : Int :=
  match op with
  | .add => k.wrap (x + y)
  | .sub => k.wrap (x - y)
  | .mul => k.wrap (x * y)
  | .and => k.wrap ((BitVec.ofInt k.bits x) &&& (BitVec.ofInt k.bits y)).toNat
  | .or => k.wrap ((BitVec.ofInt k.bits x) ||| (BitVec.ofInt k.bits y)).toNat
  | .xor => k.wrap ((BitVec.ofInt k.bits x) ^^^ (BitVec.ofInt k.bits y)).toNat
  | .andNot => k.wrap ((BitVec.ofInt k.bits x) &&& ~~~(BitVec.ofInt k.bits y)).toNat
  | .quo => k.wrap (x.tdiv y)
  | .rem => x.tmod y
  | .shl => k.wrap (x * 2 ^ (min y.toNat k.bits))
  | .shr => x.fdiv (2 ^ (min y.toNat k.bits))
  | _ => 0
def SE.val (ρ : Nat → Int) : SE → Int
  | .lit n => n
  | .var i => ρ i
  | .bin op k a b => binVal op k (a.val ρ) (b.val ρ)
  | .conv k a => k.wrap (a.val ρ)

/-! ### Abstract values -/
inductive AV : Type where
  | bool (b : Bool) | int (k : IntKind) (n : SE) | float (k : FloatKind) (bits : Nat) | str (s : ByteArray) | ustr (l : List SE)
  | ptr (k o : Nat) | nilp | sl (k o len cap esz : Nat) | nils | mp (k : Nat) | nilm
  | fn (f : FuncId) (first captured : List AV) | yld (k : Nat) | nilf | ifc (t : TypeId) (v : AV) | nili
  | agg (l : List AV) | tup (l : List AV) | sle (k o : Nat) | nan (k : FloatKind)

/-- Where an abstract block lies: its number, how many cells it has. -/
abbrev Mu := Nat → Option (Nat × Nat)
def Mu.le (μ μ' : Mu) : Prop := ∀ k x, μ k = some x → μ' k = some x
theorem Mu.le_refl (μ : Mu) : Mu.le μ μ := fun _ _ h => h
theorem Mu.le_trans {a b c : Mu} (h : Mu.le a b) (h' : Mu.le b c) : Mu.le a c := fun k x hk => h' k x (h k x hk)

mutual
inductive VR (μ : Mu) (ρ : Nat → Int) : AV → Value → Prop
  | bool {b : Bool} : VR μ ρ (.bool b) (.bool b)
  | int {k : IntKind} {e : SE} {n : Int} (h : e.val ρ = n) : VR μ ρ (.int k e) (.int k n)
  | float {k : FloatKind} {b : Nat} : VR μ ρ (.float k b) (.float k b)
  | str {s : ByteArray} : VR μ ρ (.str s) (.string s)
  | ustr {l : List SE} {s : ByteArray} (h : l.map (SE.val ρ) = s.data.toList.map fun b => (b.toNat : Int)) : VR μ ρ (.ustr l) (.string s)
  | ptr {k o b n : Nat} (h : μ k = some (b, n)) : VR μ ρ (.ptr k o) (.pointer (some ⟨b, o, none⟩))
  | nilp : VR μ ρ .nilp (.pointer none)
  | sl {k o len cap esz b n cap' : Nat} (h : μ k = some (b, n)) (h1 : cap ≤ cap') (h2 : o + cap' * esz ≤ n) (h3 : len ≤ cap) : VR μ ρ (.sl k o len cap esz) (.slice (some ⟨b, o, none⟩) len cap')
  | nils : VR μ ρ .nils (.slice none 0 0)
  | mp {k b n : Nat} (h : μ k = some (b, n)) : VR μ ρ (.mp k) (.map (some b))
  | nilm : VR μ ρ .nilm (.map none)
  | fn {f : FuncId} {a c : List AV} {a' c' : List Value} (h1 : VRs μ ρ a a') (h2 : VRs μ ρ c c') : VR μ ρ (.fn f a c) (.func (.func f) a'.toArray c'.toArray)
  | yld {k b n : Nat} (h : μ k = some (b, n)) : VR μ ρ (.yld k) (.func (.yield b) #[] #[])
  | nilf : VR μ ρ .nilf .nilFunc
  | ifc {t : TypeId} {v : AV} {v' : Value} (h : VR μ ρ v v') : VR μ ρ (.ifc t v) (.iface t v')
  | nili : VR μ ρ .nili .nilIface
  | agg {l : List AV} {l' : List Value} (h : VRs μ ρ l l') : VR μ ρ (.agg l) (.agg l'.toArray)
  | tup {l : List AV} {l' : List Value} (h : VRs μ ρ l l') : VR μ ρ (.tup l) (.tuple l'.toArray)
  | sle {k o b n : Nat} (h : μ k = some (b, n)) : VR μ ρ (.sle k o) (.slice (some ⟨b, o, none⟩) 0 0)
  | nan {k : FloatKind} {b : Nat} (h : ∃ s t, k.format.read b = .nan s t) : VR μ ρ (.nan k) (.float k b)
inductive VRs (μ : Mu) (ρ : Nat → Int) : List AV → List Value → Prop
  | nil : VRs μ ρ [] []
  | cons {v : AV} {v' : Value} {l : List AV} {l' : List Value} (h : VR μ ρ v v') (hs : VRs μ ρ l l') : VRs μ ρ (v :: l) (v' :: l')
end

section
variable {μ μ' : Mu} {ρ : Nat → Int}
mutual
theorem VR.mono (hm : Mu.le μ μ') : ∀ {v : AV} {v' : Value}, VR μ ρ v v' → VR μ' ρ v v'
  | _, _, .bool => .bool
  | _, _, .int h => .int h
  | _, _, .float => .float
  | _, _, .str => .str
  | _, _, .ustr h => .ustr h
  | _, _, .ptr h => .ptr (hm _ _ h)
  | _, _, .nilp => .nilp
  | _, _, .sl h h1 h2 h3 => .sl (hm _ _ h) h1 h2 h3
  | _, _, .nils => .nils
  | _, _, .mp h => .mp (hm _ _ h)
  | _, _, .nilm => .nilm
  | _, _, .fn h1 h2 => .fn (VRs.mono hm h1) (VRs.mono hm h2)
  | _, _, .yld h => .yld (hm _ _ h)
  | _, _, .nilf => .nilf
  | _, _, .ifc h => .ifc (VR.mono hm h)
  | _, _, .nili => .nili
  | _, _, .agg h => .agg (VRs.mono hm h)
  | _, _, .tup h => .tup (VRs.mono hm h)
  | _, _, .sle h => .sle (hm _ _ h)
  | _, _, .nan h => .nan h
theorem VRs.mono (hm : Mu.le μ μ') : ∀ {l : List AV} {l' : List Value}, VRs μ ρ l l' → VRs μ' ρ l l'
  | _, _, .nil => .nil
  | _, _, .cons h hs => .cons (VR.mono hm h) (VRs.mono hm hs)
end
theorem VRs.length : ∀ {l : List AV} {l' : List Value}, VRs μ ρ l l' → l.length = l'.length
  | _, _, .nil => rfl
  | _, _, .cons _ hs => by simp [hs.length]
theorem VRs.append : ∀ {l : List AV} {l' : List Value} {r : List AV} {r' : List Value}, VRs μ ρ l l' → VRs μ ρ r r' → VRs μ ρ (l ++ r) (l' ++ r')
  | _, _, _, _, .nil, k => k
  | _, _, _, _, .cons h hs, k => .cons h (hs.append k)
theorem VRs.get : ∀ {l : List AV} {l' : List Value}, VRs μ ρ l l' → ∀ {i : Nat} {v : AV}, l[i]? = some v → ∃ v', l'[i]? = some v' ∧ VR μ ρ v v'
  | _, _, .nil, _, _, h => by simp at h
  | _, _, .cons h hs, 0, _, e => by simp at e; subst e; exact ⟨_, rfl, h⟩
  | _, _, .cons h hs, i + 1, _, e => by simp at e; simpa using hs.get e
theorem VRs.take : ∀ {l : List AV} {l' : List Value}, VRs μ ρ l l' → ∀ (n : Nat), VRs μ ρ (l.take n) (l'.take n)
  | _, _, .nil, n => by simp; exact .nil
  | _, _, .cons h hs, 0 => by simp; exact .nil
  | _, _, .cons h hs, n + 1 => by simp; exact .cons h (hs.take n)
theorem VRs.drop : ∀ {l : List AV} {l' : List Value}, VRs μ ρ l l' → ∀ (n : Nat), VRs μ ρ (l.drop n) (l'.drop n)
  | _, _, .nil, n => by simp; exact .nil
  | _, _, .cons h hs, 0 => by simp; exact .cons h hs
  | _, _, .cons h hs, n + 1 => by simp; exact hs.drop n
theorem VRs.of_get : ∀ {l : List AV} {l' : List Value}, l.length = l'.length → (∀ (i : Nat) (v : AV) (v' : Value), l[i]? = some v → l'[i]? = some v' → VR μ ρ v v') → VRs μ ρ l l'
  | [], [], _, _ => .nil
  | [], _ :: _, h, _ => by simp at h
  | _ :: _, [], h, _ => by simp at h
  | v :: l, v' :: l', h, hg => .cons (hg 0 v v' rfl rfl) (VRs.of_get (by simpa using h) fun i x x' h1 h2 => hg (i + 1) x x' (by simpa using h1) (by simpa using h2))
end
end Vx
