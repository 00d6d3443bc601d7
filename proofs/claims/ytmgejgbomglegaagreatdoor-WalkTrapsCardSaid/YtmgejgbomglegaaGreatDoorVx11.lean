/-
  The machine: its abstract frames, one step of it.
-/
import Derived.Test.YtmgejgbomglegaaGreatDoorVx10
import Derived.RangeFuncIn
import Derived.RangeFuncLeaves
import Derived.Recover
namespace Vx
open Go

inductive AItem : Type where
  | code (c : Code)
  | inBlock (id : Nat)
  | inLoop (b : Code)
  | inScope (b : Code)
  | inOps (all : Array Oper) (rest : List Oper)
  | inRF (k : Nat)
  | endRF (k : Nat)
  | beginRound
structure AEnt : Type where
  v : AV
  rcv : Bool
inductive AMode : Type where
  | run
  | ret
  | pan (chain : List AEnt)
structure AF : Type where
  fn : FuncId
  df : Bool
  ro : Option Nat
  nt : Nat
  E : Tr AV
  todo : List AItem
  defers : List ADef
  mode : AMode
structure AM : Type where
  fr : AF
  cs : List AF
  H : Heap

/-! ### What stands for what -/
inductive L2 {α β : Type} (R : α → β → Prop) : List α → List β → Prop
  | nil : L2 R [] []
  | cons {a : α} {b : β} {l : List α} {r : List β} (h : R a b) (hs : L2 R l r) : L2 R (a :: l) (b :: r)
theorem L2.mono {α β : Type} {R R' : α → β → Prop} (hR : ∀ a b, R a b → R' a b) : ∀ {l : List α} {r : List β}, L2 R l r → L2 R' l r
  | _, _, .nil => .nil
  | _, _, .cons h hs => .cons (hR _ _ h) (hs.mono hR)
inductive IR (μ : Mu) : AItem → Item → Prop
  | code {c : Code} : IR μ (.code c) (.code c)
  | inBlock {id : Nat} : IR μ (.inBlock id) (.inBlock id)
  | inLoop {b : Code} : IR μ (.inLoop b) (.inLoop b)
  | inScope {b : Code} : IR μ (.inScope b) (.inScope b)
  | inOps {all : Array Oper} {rest : List Oper} {i : Nat} (h : all.toList.drop i = rest) (hi : i ≤ all.size) : IR μ (.inOps all rest) (.inRegion all (List.range' i (all.size - i)))
  | inRF {k b n : Nat} (h : μ k = some (b, n)) : IR μ (.inRF k) (.inRangeFunc b)
  | endRF {k b n : Nat} (h : μ k = some (b, n)) : IR μ (.endRF k) (.endRangeFunc b)
  | beginRound : IR μ .beginRound .beginRound
inductive EntR (μ : Mu) (ρ : Nat → Int) : AEnt → PanicEntry → Prop
  | mk {v : AV} {v' : Value} {r : Bool} (h : VR μ ρ v v') : EntR μ ρ ⟨v, r⟩ { v := v', recovered := r }
inductive MoR (μ : Mu) (ρ : Nat → Int) : AMode → FrameMode → Prop
  | run : MoR μ ρ .run .run
  | ret : MoR μ ρ .ret .returning
  | pan {c : List AEnt} {c' : List PanicEntry} (h : L2 (EntR μ ρ) c c') : MoR μ ρ (.pan c) (.panicking c')
inductive RoR (μ : Mu) : Option Nat → Option Nat → Prop
  | none : RoR μ none none
  | some {k b n : Nat} (h : μ k = some (b, n)) : RoR μ (some k) (some b)
def kindOf (df : Bool) : CallKind := if df then .deferred else .normal
structure FR (μ : Mu) (ρ : Nat → Int) (f : AF) (fr : Frame) : Prop where
  fn : fr.fn = f.fn
  kind : fr.kind = kindOf f.df
  ro : RoR μ f.ro fr.roundOf
  E : ER μ ρ f.nt f.E fr.tmps
  todo : f.mode = .run → L2 (IR μ) f.todo fr.todo
  defers : L2 (DR μ ρ) f.defers fr.defers
  mode : MoR μ ρ f.mode fr.mode
/-- The machine stands for a lone one, on top of the callers cs0. -/
structure MR (G : Gd) (μ : Mu) (ρ : Nat → Int) (m : AM) (cs0 : List Frame) (fr : Frame) (cs : List Frame) (w : World) : Prop where
  fr : FR μ ρ m.fr fr
  cs : ∃ cs1, cs = cs1 ++ cs0 ∧ L2 (FR μ ρ) m.cs cs1
  H : GR G μ ρ m.H w

section
variable {μ μ' : Mu} {ρ : Nat → Int}
theorem IR.mono (hm : Mu.le μ μ') {a : AItem} {b : Item} (h : IR μ a b) : IR μ' a b := by
  cases h with
  | code => exact .code
  | inBlock => exact .inBlock
  | inLoop => exact .inLoop
  | inScope => exact .inScope
  | inOps h hi => exact .inOps h hi
  | inRF h => exact .inRF (hm _ _ h)
  | endRF h => exact .endRF (hm _ _ h)
  | beginRound => exact .beginRound
theorem DR.mono (hm : Mu.le μ μ') {a : ADef} {b : Deferred} (h : DR μ ρ a b) : DR μ' ρ a b := by
  cases h with
  | coll h => exact .coll (hm _ _ h)
  | fn h1 h2 => exact .fn (h1.mono hm) (h2.mono hm)
theorem EntR.mono (hm : Mu.le μ μ') {a : AEnt} {b : PanicEntry} (h : EntR μ ρ a b) : EntR μ' ρ a b := by
  cases h with
  | mk h => exact .mk (h.mono hm)
theorem MoR.mono (hm : Mu.le μ μ') {a : AMode} {b : FrameMode} (h : MoR μ ρ a b) : MoR μ' ρ a b := by
  cases h with
  | run => exact .run
  | ret => exact .ret
  | pan h => exact .pan (h.mono fun _ _ => EntR.mono hm)
theorem RoR.mono (hm : Mu.le μ μ') {a b : Option Nat} (h : RoR μ a b) : RoR μ' a b := by
  cases h with
  | none => exact .none
  | some h => exact .some (hm _ _ h)
theorem FR.mono (hm : Mu.le μ μ') {f : AF} {fr : Frame} (h : FR μ ρ f fr) : FR μ' ρ f fr :=
  ⟨h.fn, h.kind, h.ro.mono hm, h.E.mono hm, fun hr => (h.todo hr).mono fun _ _ => IR.mono hm, h.defers.mono fun _ _ => DR.mono hm, h.mode.mono hm⟩
end

/-! ### Steps of the model's machine -/
theorem frame_atR (fr : Frame) (h : fr.mode = .run) : fr = fr.atR ⟨fr.tmps, fr.defers⟩ fr.todo := by
  cases fr; simp only at h; subst h; rfl
section
variable {P : Program} {b : Frame} {a : Act} {k : List Item} {cs : List Frame} {w w' : World} {ops : Array Oper} {i : Nat} {rest : List Nat} {o : Oper}
theorem fin_atR (ho : ops[i]? = some o) (v : Value) : (b.atR a (.inRegion ops (i :: rest) :: k)).finish v = b.atR (a.put o.dst v) (.inRegion ops rest :: k) := by
  rw [Frame.finish_atR, ho]; rfl
theorem st_val (ho : ops[i]? = some o) (hw : Region.wanted o (yielded ops a.tmps) = true) {nx : Next} {v : Value} (hr : (o.semAt b.roundOf a.eval).run P w = .ok nx w') (hnx : (nx = .value v) ∨ (nx = .skip ∧ v = undef)) :
    step P (lone (b.atR a (.inRegion ops (i :: rest) :: k)) cs w) = .next (lone (b.atR (a.put o.dst v) (.inRegion ops rest :: k)) cs w') := by
  have hg := stepGR_op (P := P) (b := b) (k := k) (cs := cs) (w := w) (rest := rest) ho hw
  refine step_lone_go ?_
  rw [hg, ← fin_atR ho]
  rcases hnx with rfl | ⟨rfl, rfl⟩ <;> simp [stepG.apply, hr]
theorem st_enter (ho : ops[i]? = some o) (hw : Region.wanted o (yielded ops a.tmps) = true) {f : FuncId} {args : Array Value} (hr : (o.semAt b.roundOf a.eval).run P w = .ok (.enter f args) w') :
    step P (lone (b.atR a (.inRegion ops (i :: rest) :: k)) cs w) = .next (lone (Frame.enter P f args .normal) (b.atR a (.inRegion ops (i :: rest) :: k) :: cs) w') := by
  have hg := stepGR_op (P := P) (b := b) (k := k) (cs := cs) (w := w) (rest := rest) ho hw
  exact step_lone_go (by rw [hg]; simp [stepG.apply, hr, Frame.atR])
theorem st_round (ho : ops[i]? = some o) (hw : Region.wanted o (yielded ops a.tmps) = true) {l : Nat} {f : FuncId} {tmps : Array Value} {as bd : Code} (hr : (o.semAt b.roundOf a.eval).run P w = .ok (.round l f tmps as bd) w') :
    step P (lone (b.atR a (.inRegion ops (i :: rest) :: k)) cs w) = .next (lone (Frame.round l f tmps as bd .normal) (b.atR a (.inRegion ops (i :: rest) :: k) :: cs) w') := by
  have hg := stepGR_op (P := P) (b := b) (k := k) (cs := cs) (w := w) (rest := rest) ho hw
  exact step_lone_go (by rw [hg]; simp [stepG.apply, hr, Frame.atR])
theorem st_defer (ho : ops[i]? = some o) (hw : Region.wanted o (yielded ops a.tmps) = true) {d : Deferred} (hr : (o.semAt b.roundOf a.eval).run P w = .ok (.defer d) w') :
    step P (lone (b.atR a (.inRegion ops (i :: rest) :: k)) cs w) = .next (lone (b.atR ({ a with defers := d :: a.defers }.put o.dst undef) (.inRegion ops rest :: k)) cs w') := by
  have hg := stepGR_op (P := P) (b := b) (k := k) (cs := cs) (w := w) (rest := rest) ho hw
  have hf := fin_atR (b := b) (a := { a with defers := d :: a.defers }) (k := k) (rest := rest) ho undef
  refine step_lone_go ?_
  rw [hg]
  simp only [stepG.apply, Sem.runT_eq, hr, if_true, GStep.bare_after]
  exact congrArg (fun fr => GStep.go { frame := fr, callers := cs, status := .running, dying := none } w') hf
theorem st_pan (ho : ops[i]? = some o) (hw : Region.wanted o (yielded ops a.tmps) = true) {v : Value} (hr : (o.semAt b.roundOf a.eval).run P w = .halt (.panic v) w') :
    step P (lone (b.atR a (.inRegion ops (i :: rest) :: k)) cs w) = .next (lone { b.atR a (.inRegion ops (i :: rest) :: k) with mode := .panicking [{ v, recovered := false }] } cs w') := by
  have hg := stepGR_op (P := P) (b := b) (k := k) (cs := cs) (w := w) (rest := rest) ho hw
  refine step_lone_go ?_
  rw [hg, ← Frame.raise_atR]
  simp [stepG.apply, hr]
theorem st_recov (ho : ops[i]? = some o) (hw : Region.wanted o (yielded ops a.tmps) = true) (hb : b.roundOf = none) (hr : (execOp a.eval o).run P w = .ok .recover w') {v : Value} {cs' : List Frame}
    (hc : tryRecover (b.atR a (.inRegion ops (i :: rest) :: k)) cs = some (v, cs') ∨ (tryRecover (b.atR a (.inRegion ops (i :: rest) :: k)) cs = none ∧ v = .nilIface ∧ cs' = cs)) :
    step P (lone (b.atR a (.inRegion ops (i :: rest) :: k)) cs w) = .next (lone (b.atR (a.put o.dst v) (.inRegion ops rest :: k)) cs' w') := by
  have hg := stepGR_op (P := P) (b := b) (k := k) (cs := cs) (w := w) (rest := rest) ho hw
  refine step_lone_go ?_
  have hb' : (b.atR a (.inRegion ops (i :: rest) :: k)).roundOf = none := hb
  rw [hg, ← fin_atR ho, hb, Oper.semAt_none]
  rcases hc with hc | ⟨hc, rfl, rfl⟩
  · simp [stepG.apply, hr, hb', hc]
  · simp [stepG.apply, hr, hb', hc]
end
end Vx
