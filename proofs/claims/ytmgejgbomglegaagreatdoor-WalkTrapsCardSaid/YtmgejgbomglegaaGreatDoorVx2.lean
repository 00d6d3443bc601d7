/-
  Abstract heaps; how they stand for a world ('GR'); what a step keeps ('Fr').
-/
import Derived.Test.YtmgejgbomglegaaGreatDoorVx1
import Derived.RangeFuncRecord
namespace Vx
open Go

inductive AObj : Type where
  | cells (c : Tr AV) (d : AV) (n : Nat) (elem : TypeId)
  | map (es : List (AV × AV))
  | loop (st : LoopState) (pe : Option Code) (fn : FuncId) (nt : Nat) (tmps : Tr AV) (params : Array Tmp) (assign body : Code) (defers : Nat)
  | dfr
structure Heap : Type where
  tr : Tr AObj
  next : Nat

/-- A known cell. -/
noncomputable def og {α : Type} (x : Option α) (d : α) : α := Option.rec (motive := fun _ => α) d (fun v => v) x
@[simp] theorem og_none {α : Type} (d : α) : og none d = d := rfl
@[simp] theorem og_some {α : Type} (v d : α) : og (some v) d = v := rfl
noncomputable def cget (c : Tr AV) (d : AV) (i : Nat) : AV := og (c.get i) d
theorem cget_put (c : Tr AV) (d : AV) (i : Nat) (v : AV) (j : Nat) : cget (c.put i (some v)) d j = if j = i then v else cget c d j := by
  unfold cget; rw [Tr.get_put]; split <;> rfl
def ER (μ : Mu) (ρ : Nat → Int) (nt : Nat) (E : Tr AV) (tmps : Array Value) : Prop :=
  tmps.size = nt ∧ ∀ t v, E.get t = some v → VR μ ρ v (tmps.getD t undef)
def OR (μ : Mu) (ρ : Nat → Int) (n : Nat) (x : Obj) : AObj → Prop
  | .cells c d m e => ∃ a : Array Value, x = .cells a e (0, 0) ∧ a.size = n ∧ m ≤ n ∧ ∀ i, i < m → ∃ v', a[i]? = some v' ∧ VR μ ρ (cget c d i) v'
  | .map es => ∃ (l : Array MapEntry) (clock : Nat), x = .map l clock ∧ VRs μ ρ (es.map Prod.fst) (l.toList.map (·.key)) ∧ VRs μ ρ (es.map Prod.snd) (l.toList.map (·.val))
  | .loop st pe fn nt tm ps as bd df => ∃ (tmps : Array Value) (D m : Nat), μ df = some (D, m) ∧ ER μ ρ nt tm tmps ∧
      x = .loop { state := st, pending := pe, fn := fn, tmps := tmps, params := ps, assign := as, body := bd, defers := D }
  | .dfr => x = .deferred (some [])

/-- What is to be left alone: blocks; numbers that are kept free. -/
structure Gd : Type where
  blk : Nat → Prop
  ids : Nat → Prop
/-- The heap stands for the world; what G holds of is none of its blocks. -/
structure GR (G : Gd) (μ : Mu) (ρ : Nat → Int) (H : Heap) (w : World) : Prop where
  obj : ∀ k o, H.tr.get k = some o → ∃ b n x, μ k = some (b, n) ∧ ¬ G.blk b ∧ w.heap[b]? = some x ∧ OR μ ρ n x o
  inj : ∀ k k' o o' b n n', H.tr.get k = some o → H.tr.get k' = some o' → μ k = some (b, n) → μ k' = some (b, n') → k = k'
  dom : ∀ k b n, μ k = some (b, n) → k < H.next ∧ b < w.heap.size
  glt : ∀ b, G.blk b → b < w.heap.size
  rid : ∀ k, G.ids k → k < H.next ∧ μ k = none

/-- What a step keeps. -/
structure Fr (G : Gd) (w w' : World) : Prop where
  os : w'.os = w.os
  tape : w'.tape = w.tape
  output : w'.output = w.output
  size : w.heap.size ≤ w'.heap.size
  block : ∀ b, G.blk b → b < w.heap.size → w'.heap[b]? = w.heap[b]?
theorem Fr.refl (G : Gd) (w : World) : Fr G w w := ⟨rfl, rfl, rfl, Nat.le_refl _, fun _ _ _ => rfl⟩
theorem Fr.trans {G : Gd} {a b c : World} (h : Fr G a b) (k : Fr G b c) : Fr G a c :=
  ⟨k.os.trans h.os, k.tape.trans h.tape, k.output.trans h.output, Nat.le_trans h.size k.size,
    fun x hx hl => (k.block x hx (Nat.lt_of_lt_of_le hl h.size)).trans (h.block x hx hl)⟩
theorem Fr.mono {G G' : Gd} {a b : World} (h : Fr G a b) (hG : ∀ b, G'.blk b → G.blk b) : Fr G' a b := ⟨h.os, h.tape, h.output, h.size, fun x hx hl => h.block x (hG x hx) hl⟩
theorem Fr.drew (G : Gd) (w : World) : Fr G w w.drew := ⟨rfl, rfl, rfl, Nat.le_refl _, fun _ _ _ => rfl⟩

section
variable {G : Gd} {μ μ' : Mu} {ρ : Nat → Int} {H : Heap} {w w' : World}

theorem ER.mono {nt : Nat} {E : Tr AV} {tmps : Array Value} (hm : Mu.le μ μ') (h : ER μ ρ nt E tmps) : ER μ' ρ nt E tmps := ⟨h.1, fun t v e => (h.2 t v e).mono hm⟩
theorem OR.mono {n : Nat} {x : Obj} {o : AObj} (hm : Mu.le μ μ') (h : OR μ ρ n x o) : OR μ' ρ n x o := by
  cases o with
  | cells c d m e => obtain ⟨a, h1, h2, h3, h4⟩ := h; exact ⟨a, h1, h2, h3, fun i hi => let ⟨v, h5, h6⟩ := h4 i hi; ⟨v, h5, h6.mono hm⟩⟩
  | map es => obtain ⟨l, c, h1, h2, h3⟩ := h; exact ⟨l, c, h1, h2.mono hm, h3.mono hm⟩
  | loop st pe fn nt tm ps as bd df => obtain ⟨t, D, m, h1, h2, h3⟩ := h; exact ⟨t, D, m, hm _ _ h1, h2.mono hm, h3⟩
  | dfr => exact h
theorem getD_set (tmps : Array Value) (t : Nat) (v d : Value) (j : Nat) (ht : t < tmps.size) : (tmps.setIfInBounds t v).getD j d = if j = t then v else tmps.getD j d := by
  rw [Array.getD_eq_getD_getElem?, Array.getD_eq_getD_getElem?]
  by_cases e : j = t
  · subst e; rw [if_pos rfl, Array.getElem?_setIfInBounds_self_of_lt ht]; rfl
  · rw [if_neg e, Array.getElem?_setIfInBounds_ne (Ne.symm e)]
theorem ER.put {nt : Nat} {E : Tr AV} {tmps : Array Value} (h : ER μ ρ nt E tmps) {t : Nat} {v : AV} {v' : Value} (hv : VR μ ρ v v') (ht : t < nt) : ER μ ρ nt (E.put t (some v)) (tmps.setIfInBounds t v') := by
  refine ⟨by simpa using h.1, fun j u hj => ?_⟩
  rw [Tr.get_put] at hj
  rw [getD_set _ _ _ _ _ (by rw [h.1]; exact ht)]
  by_cases e : j = t
  · rw [if_pos e] at hj ⊢; cases hj; exact hv
  · rw [if_neg e] at hj ⊢; exact h.2 j u hj

def Mu.upd (μ : Mu) (k : Nat) (x : Nat × Nat) : Mu := fun j => if j = k then some x else μ j
theorem Mu.upd_self (μ : Mu) (k : Nat) (x : Nat × Nat) : μ.upd k x k = some x := by simp [Mu.upd]
theorem Mu.upd_le {μ : Mu} {k : Nat} {x : Nat × Nat} (h : μ k = none) : Mu.le μ (μ.upd k x) := fun j y hj => by
  unfold Mu.upd
  by_cases e : j = k
  · subst e; rw [h] at hj; cases hj
  · rw [if_neg e]; exact hj
theorem GR.fresh (h : GR G μ ρ H w) : μ H.next = none := by
  cases e : μ H.next with
  | none => rfl
  | some x => obtain ⟨b, n⟩ := x; have := (h.dom _ _ _ e).1; omega

noncomputable def Heap.add (H : Heap) (o : AObj) : Heap := ⟨H.tr.put H.next (some o), Nat.succ H.next⟩
noncomputable def Heap.set (H : Heap) (k : Nat) (o : AObj) : Heap := ⟨H.tr.put k (some o), H.next⟩
noncomputable def Heap.kill (H : Heap) (k : Nat) : Heap := ⟨H.tr.put k none, H.next⟩

theorem GR.drew (h : GR G μ ρ H w) : GR G μ ρ H w.drew := ⟨h.obj, h.inj, h.dom, h.glt, h.rid⟩

/-- A new block, known by a new number. -/
theorem GR.alloc (h : GR G μ ρ H w) {o : AObj} {x : Obj} {n : Nat} (ho : OR μ ρ n x o) :
    GR G (μ.upd H.next (w.heap.size, n)) ρ (H.add o) (w.alloc x) ∧ Mu.le μ (μ.upd H.next (w.heap.size, n)) ∧ Fr G w (w.alloc x) := by
  have hle := Mu.upd_le (x := (w.heap.size, n)) h.fresh
  have hold : ∀ b, b < w.heap.size → (w.alloc x).heap[b]? = w.heap[b]? := fun b hb => by simp only [World.alloc]; rw [Array.getElem?_push, if_neg (Nat.ne_of_lt hb)]
  refine ⟨⟨fun k o' hk => ?_, fun k k' o1 o2 b n1 n2 hk hk' h1 h2 => ?_, fun k b n' hk => ?_, fun b hb => by have := h.glt b hb; rw [World.size_alloc]; omega,
    fun k hk => ⟨Nat.lt_succ_of_lt (h.rid k hk).1, by have h1 := (h.rid k hk).1; unfold Mu.upd; rw [if_neg (by omega)]; exact (h.rid k hk).2⟩⟩, hle, ⟨rfl, rfl, rfl, by rw [World.size_alloc]; omega, fun b hb hl => hold b hl⟩⟩
  · simp only [Heap.add, Tr.get_put] at hk
    by_cases e : k = H.next
    · subst e
      rw [if_pos rfl] at hk
      cases hk
      exact ⟨_, _, x, Mu.upd_self _ _ _, fun hg => Nat.lt_irrefl _ (h.glt _ hg), by simp only [World.alloc]; rw [Array.getElem?_push, if_pos rfl], ho.mono hle⟩
    · rw [if_neg e] at hk
      obtain ⟨b, m, y, h1, h2, h3, h4⟩ := h.obj k o' hk
      exact ⟨b, m, y, hle _ _ h1, h2, (hold b (h.dom _ _ _ h1).2).trans h3, h4.mono hle⟩
  · simp only [Heap.add, Tr.get_put] at hk hk'
    unfold Mu.upd at h1 h2
    by_cases e : k = H.next
    · by_cases e' : k' = H.next
      · rw [e, e']
      · rw [if_pos e] at h1
        rw [if_neg e'] at h2
        cases h1
        exact absurd (h.dom _ _ _ h2).2 (Nat.lt_irrefl _)
    · rw [if_neg e] at h1 hk
      by_cases e' : k' = H.next
      · rw [if_pos e'] at h2
        cases h2
        exact absurd (h.dom _ _ _ h1).2 (Nat.lt_irrefl _)
      · rw [if_neg e'] at h2 hk'
        exact h.inj k k' o1 o2 b n1 n2 hk hk' h1 h2
  · unfold Mu.upd at hk
    by_cases e : k = H.next
    · rw [if_pos e] at hk; cases hk
      exact ⟨by rw [e]; exact Nat.lt_succ_self _, by rw [World.size_alloc]; omega⟩
    · rw [if_neg e] at hk
      obtain ⟨h1, h2⟩ := h.dom _ _ _ hk
      exact ⟨Nat.lt_succ_of_lt h1, by rw [World.size_alloc]; omega⟩

/-- A block of the heap's turns. -/
theorem GR.turn (h : GR G μ ρ H w) {k b n : Nat} {o0 o : AObj} {x : Obj} (hk : H.tr.get k = some o0) (hb : μ k = some (b, n)) (hother : ∀ b', b' ≠ b → w'.heap[b']? = w.heap[b']?) (hx : w'.heap[b]? = some x)
    (hsz : w'.heap.size = w.heap.size) (ho : OR μ ρ n x o) (hos : w'.os = w.os) (ht : w'.tape = w.tape) (hout : w'.output = w.output) : GR G μ ρ (H.set k o) w' ∧ Fr G w w' := by
  obtain ⟨b1, n1, x1, e1, hg, _, _⟩ := h.obj k o0 hk
  rw [hb] at e1; cases e1
  refine ⟨⟨fun k' o' hk' => ?_, fun k1 k2 o1 o2 b' m1 m2 h1 h2 e1 e2 => ?_, fun k' b' n' hk' => by rw [hsz]; exact h.dom _ _ _ hk', fun b' hb' => by rw [hsz]; exact h.glt b' hb', h.rid⟩,
    ⟨hos, ht, hout, by omega, fun b' hb' _ => hother b' (fun e => hg (e ▸ hb'))⟩⟩
  · simp only [Heap.set, Tr.get_put] at hk'
    by_cases e : k' = k
    · subst e; rw [if_pos rfl] at hk'; cases hk'
      exact ⟨b, n, x, hb, hg, hx, ho⟩
    · rw [if_neg e] at hk'
      obtain ⟨b2, n2, x2, h1, h2, h3, h4⟩ := h.obj k' o' hk'
      refine ⟨b2, n2, x2, h1, h2, (hother b2 ?_).trans h3, h4⟩
      intro e2; subst e2
      exact e (h.inj k' k _ _ _ _ _ hk' hk h1 hb)
  · simp only [Heap.set, Tr.get_put] at h1 h2
    have g : ∀ j oj, (if j = k then some o else H.tr.get j) = some oj → ∃ oj', H.tr.get j = some oj' := fun j oj hj => by
      by_cases e : j = k
      · subst e; exact ⟨_, hk⟩
      · rw [if_neg e] at hj; exact ⟨_, hj⟩
    obtain ⟨o1', h1'⟩ := g _ _ h1
    obtain ⟨o2', h2'⟩ := g _ _ h2
    exact h.inj _ _ _ _ _ _ _ h1' h2' e1 e2

/-- A number is given up. -/
theorem GR.kill (h : GR G μ ρ H w) (k : Nat) : GR G μ ρ (H.kill k) w := by
  have g : ∀ j oj, (H.kill k).tr.get j = some oj → H.tr.get j = some oj := fun j oj hj => by
    simp only [Heap.kill, Tr.get_put] at hj
    by_cases e : j = k
    · rw [if_pos e] at hj; cases hj
    · rw [if_neg e] at hj; exact hj
  exact ⟨fun k' o hk => h.obj k' o (g _ _ hk), fun k1 k2 o1 o2 b m1 m2 h1 h2 => h.inj _ _ _ _ _ _ _ (g _ _ h1) (g _ _ h2), h.dom, h.glt, h.rid⟩

/-- A block turns, is known by a new number, and no more by its old one. -/
theorem GR.move (h : GR G μ ρ H w) {k b n : Nat} {o0 : AObj} {o : AObj} {x : Obj} (hk : H.tr.get k = some o0) (hb : μ k = some (b, n)) (hother : ∀ b', b' ≠ b → w'.heap[b']? = w.heap[b']?) (hx : w'.heap[b]? = some x)
    (hsz : w'.heap.size = w.heap.size) (ho : OR μ ρ n x o) (hos : w'.os = w.os) (ht : w'.tape = w.tape) (hout : w'.output = w.output) :
    GR G (μ.upd H.next (b, n)) ρ ((H.kill k).add o) w' ∧ Mu.le μ (μ.upd H.next (b, n)) ∧ Fr G w w' := by
  have hle := Mu.upd_le (x := (b, n)) h.fresh
  obtain ⟨b1, n1, x1, e1, hg, _, _⟩ := h.obj k o0 hk
  rw [hb] at e1; cases e1
  have hne : k ≠ H.next := fun e => by have := (h.dom _ _ _ hb).1; omega
  have g : ∀ j oj, ((H.kill k).add o).tr.get j = some oj → (j = H.next ∧ oj = o) ∨ (j ≠ H.next ∧ j ≠ k ∧ H.tr.get j = some oj) := fun j oj hj => by
    simp only [Heap.kill, Heap.add, Tr.get_put] at hj
    by_cases e : j = H.next
    · rw [if_pos e] at hj; cases hj; exact .inl ⟨e, rfl⟩
    · rw [if_neg e] at hj
      by_cases e' : j = k
      · rw [if_pos e'] at hj; cases hj
      · rw [if_neg e'] at hj; exact .inr ⟨e, e', hj⟩
  refine ⟨⟨fun k' o' hk' => ?_, fun k1 k2 o1 o2 b' m1 m2 h1 h2 e1 e2 => ?_, fun k' b' n' hk' => ?_, fun b' hb' => by rw [hsz]; exact h.glt b' hb',
    fun k hk => ⟨Nat.lt_succ_of_lt (h.rid k hk).1, by have h1 := (h.rid k hk).1; unfold Mu.upd; rw [if_neg (by omega)]; exact (h.rid k hk).2⟩⟩, hle,
    ⟨hos, ht, hout, by omega, fun b' hb' _ => hother b' (fun e => hg (e ▸ hb'))⟩⟩
  · rcases g _ _ hk' with ⟨rfl, rfl⟩ | ⟨e, e', hj⟩
    · exact ⟨b, n, x, Mu.upd_self _ _ _, hg, hx, ho.mono hle⟩
    · obtain ⟨b2, n2, x2, h1, h2, h3, h4⟩ := h.obj k' o' hj
      refine ⟨b2, n2, x2, hle _ _ h1, h2, (hother b2 ?_).trans h3, h4.mono hle⟩
      intro e2; subst e2
      exact e' (h.inj k' k _ _ _ _ _ hj hk h1 hb)
  · unfold Mu.upd at e1 e2
    rcases g _ _ h1 with ⟨rfl, rfl⟩ | ⟨e, e', hj⟩ <;> rcases g _ _ h2 with ⟨rfl, rfl⟩ | ⟨f, f', hf⟩
    · rfl
    · rw [if_pos rfl] at e1; rw [if_neg f] at e2; cases e1
      exact absurd (h.inj k k2 _ _ _ _ _ hk hf hb e2) (Ne.symm f')
    · rw [if_neg e] at e1; rw [if_pos rfl] at e2; cases e2
      exact absurd (h.inj k1 k _ _ _ _ _ hj hk e1 hb) e'
    · rw [if_neg e] at e1; rw [if_neg f] at e2
      exact h.inj _ _ _ _ _ _ _ hj hf e1 e2
  · unfold Mu.upd at hk'
    rw [hsz]
    by_cases e : k' = H.next
    · rw [if_pos e] at hk'; cases hk'
      exact ⟨by rw [e]; exact Nat.lt_succ_self _, (h.dom _ _ _ hb).2⟩
    · rw [if_neg e] at hk'
      obtain ⟨h1, h2⟩ := h.dom _ _ _ hk'
      exact ⟨Nat.lt_succ_of_lt h1, h2⟩

/-- A cell that is known. -/
theorem GR.cell (h : GR G μ ρ H w) {k : Nat} {c : Tr AV} {d : AV} {m : Nat} {e : TypeId} (hk : H.tr.get k = some (.cells c d m e)) :
    ∃ b n, μ k = some (b, n) ∧ m ≤ n ∧ (∀ i, i < m → ∃ v', w.cell? ⟨b, i, none⟩ = some v' ∧ VR μ ρ (cget c d i) v') ∧ (∀ i, w.frozen? ⟨b, i, none⟩ = false) ∧ (∃ a, w.heap[b]? = some (.cells a e (0, 0)) ∧ a.size = n) := by
  obtain ⟨b, n, x, h1, _, h3, a, rfl, h4, h5, h6⟩ := h.obj k _ hk
  refine ⟨b, n, h1, h5, fun i hi => ?_, fun i => by simp [World.frozen?, h3], a, h3, h4⟩
  obtain ⟨v', h7, h8⟩ := h6 i hi
  exact ⟨v', by simp [World.cell?, h3, h7], h8⟩

/-- A known cell is written. -/
theorem GR.store (h : GR G μ ρ H w) {k : Nat} {c : Tr AV} {d : AV} {m : Nat} {e : TypeId} (hk : H.tr.get k = some (.cells c d m e)) {b n : Nat} (hb : μ k = some (b, n)) {i : Nat} (hi : i < m) {v : AV} {v' : Value} (hv : VR μ ρ v v') :
    GR G μ ρ (H.set k (.cells (c.put i (some v)) d m e)) (w.setCell ⟨b, i, none⟩ v') ∧ Fr G w (w.setCell ⟨b, i, none⟩ v') := by
  obtain ⟨b1, n1, x, h1, _, h3, a, rfl, h4, h5, h6⟩ := h.obj k _ hk
  rw [hb] at h1; cases h1
  have hlt : b < w.heap.size := (h.dom _ _ _ hb).2
  refine h.turn hk hb (x := .cells (a.setIfInBounds i v') e (0, 0)) (fun b' hne => ?_) ?_ (by simp) ⟨a.setIfInBounds i v', rfl, by simpa using h4, h5, fun j hj => ?_⟩ rfl rfl rfl
  · simp only [World.setCell]; rw [Array.getElem?_modify]; simp [Ne.symm hne]
  · simp only [World.setCell]; rw [Array.getElem?_modify]; simp [h3]
  · rw [cget_put]
    by_cases e' : j = i
    · subst e'
      rw [if_pos rfl]
      exact ⟨v', by rw [Array.getElem?_setIfInBounds_self_of_lt (by omega)], hv⟩
    · rw [if_neg e', Array.getElem?_setIfInBounds_ne (Ne.symm e')]
      exact h6 j hj
/-- All blocks have been left alone. -/
theorem GR.all {w' : World} (h : GR G μ ρ H w) (hF : Fr ⟨fun b => b < w.heap.size, fun _ => False⟩ w w') : GR G μ ρ H w' ∧ Fr G w w' := by
  have hb : ∀ b, b < w.heap.size → w'.heap[b]? = w.heap[b]? := fun b hb => hF.block b hb hb
  refine ⟨⟨fun k o hk => ?_, h.inj, fun k b n hk => ⟨(h.dom k b n hk).1, Nat.lt_of_lt_of_le (h.dom k b n hk).2 hF.size⟩, fun b hg => Nat.lt_of_lt_of_le (h.glt b hg) hF.size, h.rid⟩, hF.os, hF.tape, hF.output, hF.size, fun b _ hl => hb b hl⟩
  obtain ⟨b, n, x, h1, h2, h3, h4⟩ := h.obj k o hk
  exact ⟨b, n, x, h1, h2, (hb b (h.dom _ _ _ h1).2).trans h3, h4⟩
end
end Vx
