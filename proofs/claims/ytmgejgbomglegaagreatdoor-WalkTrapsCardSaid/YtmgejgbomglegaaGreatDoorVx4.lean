/-
  Operations on memory: loads, stores, new variables, composite literals.
-/
import Derived.Test.YtmgejgbomglegaaGreatDoorVx3
namespace Vx
open Go

/-- What an instruction that gives a value comes to. -/
def ValOK (P : Program) (G : Gd) (μ : Mu) (ρ : Nat → Int) (s : Sem Value) (w : World) (v : AV) (H : Heap) : Prop :=
  ∃ v' w' μ', s.run P w = .ok v' w' ∧ Mu.le μ μ' ∧ VR μ' ρ v v' ∧ GR G μ' ρ H w' ∧ Fr G w w'

section
variable {P : Program} {G : Gd} {μ : Mu} {ρ : Nat → Int} {H : Heap} {w : World}

theorem ValOK.pure {s : Sem Value} {v : AV} {v' : Value} (hG : GR G μ ρ H w) (h : s.run P w = .ok v' w) (hv : VR μ ρ v v') : ValOK P G μ ρ s w v H :=
  ⟨v', w, μ, h, Mu.le_refl _, hv, hG, Fr.refl _ _⟩

theorem addr_add (b o j : Nat) : (⟨b, o, none⟩ : Addr).add j = ⟨b, o + j, none⟩ := by
  unfold Addr.add; split
  · rename_i h; subst h; rfl
  · rfl
theorem run_und {t : TypeId} {d : TypeDesc} (h : P.underlying t = some d) (w : World) : (underlying t).run P w = .ok d w := by simp [underlying, h]
theorem run_info {t : TypeId} {i : TypeInfo} (h : P.info? t = some i) (w : World) : (typeInfo t).run P w = .ok i w := by simp [typeInfo, h]
theorem run_size {t : TypeId} {i : TypeInfo} (h : P.info? t = some i) (w : World) : (Go.sizeOf t).run P w = .ok i.size w := by simp [Go.sizeOf, typeInfo, h]
def aggD : TypeDesc → Bool
  | .struct _ => true
  | .array _ _ => true
  | _ => false
theorem run_isAgg {t : TypeId} {d : TypeDesc} (h : P.underlying t = some d) (w : World) : (isAgg t).run P w = .ok (aggD d) w := by
  unfold isAgg; rw [Sem.run_bind, run_und h]; simp only [Result.andThen_ok]; cases d <;> rfl
theorem run_zero {t : TypeId} {i : TypeInfo} {z : Value} (h : P.info? t = some i) (hz : i.zero = some z) (w : World) : (zeroValue t).run P w = .ok z w := by simp [zeroValue, typeInfo, h, hz]

/-! ### Loads -/
noncomputable def cellsFrom (c : Tr AV) (d : AV) (o : Nat) : Nat → List AV
  | 0 => []
  | s + 1 => cget c d o :: cellsFrom c d (Nat.succ o) s
theorem cellsFrom_length (c : Tr AV) (d : AV) : ∀ (s o : Nat), (cellsFrom c d o s).length = s
  | 0, _ => rfl
  | s + 1, o => by simp [cellsFrom, cellsFrom_length c d s]
theorem cellsFrom_get (c : Tr AV) (d : AV) : ∀ (s o i : Nat), i < s → (cellsFrom c d o s)[i]? = some (cget c d (o + i))
  | 0, _, _, h => by omega
  | s + 1, o, 0, _ => by simp [cellsFrom]
  | s + 1, o, i + 1, h => by
    simp only [cellsFrom, List.getElem?_cons_succ]
    rw [cellsFrom_get c d s (Nat.succ o) i (by omega)]
    congr 2; omega
noncomputable def loadA (P : Program) (H : Heap) (t : TypeId) (x : AV) : Option AV :=
  match x with
  | .ptr k o => match H.tr.get k with
    | some (.cells c d m _) => match P.underlying t with
      | some ds => match aggD ds with
        | true => match P.info? t with
          | some i => match Nat.ble (Nat.add o i.size) m with
            | true => some (.agg (cellsFrom c d o i.size))
            | false => none
          | none => none
        | false => match Nat.ble (Nat.succ o) m with
          | true => some (cget c d o)
          | false => none
      | none => none
    | _ => none
  | _ => none
theorem cells_at (hG : GR G μ ρ H w) {k : Nat} {c : Tr AV} {d : AV} {m : Nat} {e : TypeId} (hk : H.tr.get k = some (.cells c d m e)) {b n : Nat} (hb : μ k = some (b, n)) (o : Nat) : ∀ s, o + s ≤ m →
    ∃ cs : List Value, cs.length = s ∧ (∀ j v, cs[j]? = some v → w.cell? ⟨b, o + j, none⟩ = some v) ∧ VRs μ ρ (cellsFrom c d o s) cs := by
  obtain ⟨b1, n1, h1, h2, h3, _, _⟩ := hG.cell hk
  rw [hb] at h1; cases h1
  intro s
  induction s generalizing o with
  | zero => intro _; exact ⟨[], rfl, fun j v h => by simp at h, .nil⟩
  | succ s ih =>
    intro hs
    obtain ⟨v, hv1, hv2⟩ := h3 o (by omega)
    obtain ⟨cs, hl, hc, hr⟩ := ih (o + 1) (by omega)
    refine ⟨v :: cs, by simp [hl], fun j u hu => ?_, .cons hv2 hr⟩
    cases j with
    | zero => simp at hu; subst hu; exact hv1
    | succ j =>
      simp at hu
      have := hc j u hu
      rw [show o + (j + 1) = o + 1 + j by omega]; exact this
theorem loadA_run (hG : GR G μ ρ H w) {t : TypeId} {x v : AV} {x' : Value} (hx : VR μ ρ x x') (h : loadA P H t x = some v) : ∃ v', (Instr.loadAt t x').run P w = .ok v' w ∧ VR μ ρ v v' := by
  unfold loadA at h
  split at h
  · rename_i k o
    split at h
    · rename_i c d m e hk
      cases hx with
      | @ptr _ _ b n hb =>
      cases hu : P.underlying t with
      | none => simp [hu] at h
      | some ds =>
        simp only [hu] at h
        cases ha : aggD ds with
        | true =>
          simp only [ha] at h
          cases hi : P.info? t with
          | none => simp [hi] at h
          | some i =>
            simp only [hi] at h
            split at h
            · rename_i hle
              cases h
              obtain ⟨cs, hl, hc, hr⟩ := cells_at hG hk hb o i.size (Nat.le_of_ble_eq_true hle)
              refine ⟨.agg cs.toArray, ?_, .agg hr⟩
              simp only [Instr.loadAt, Instr.sureAddr, loadVar, Sem.run_bind, Sem.run_pure, Result.andThen_ok, run_isAgg hu, ha, if_true, run_size hi]
              rw [← hl, run_loadCells_list w _ cs (fun j v hv => by rw [addr_add]; exact hc j v hv)]
              simp
            · cases h
        | false =>
          simp only [ha] at h
          split at h
          · rename_i hle
            cases h
            obtain ⟨b1, n1, h1, h2, h3, _, _⟩ := hG.cell hk
            rw [hb] at h1; cases h1
            obtain ⟨v', hv1, hv2⟩ := h3 o (Nat.le_of_ble_eq_true hle)
            refine ⟨v', ?_, hv2⟩
            simp only [Instr.loadAt, Instr.sureAddr, loadVar, Sem.run_bind, Sem.run_pure, Result.andThen_ok, run_isAgg hu, ha]
            simp [hv1]
          · cases h
    · cases h
  · cases h

theorem loadA_ok (hG : GR G μ ρ H w) {t : TypeId} {x v : AV} {x' : Value} (hx : VR μ ρ x x') (h : loadA P H t x = some v) : ValOK P G μ ρ (Instr.loadAt t x') w v H :=
  let ⟨_, h1, h2⟩ := loadA_run hG hx h
  ValOK.pure hG h1 h2
theorem loadA_ptr {t : TypeId} {x v : AV} {x' : Value} (hx : VR μ ρ x x') (h : loadA P H t x = some v) : ∃ ad, x' = .pointer (some ad) := by
  unfold loadA at h
  split at h
  · cases hx; exact ⟨_, rfl⟩
  · cases h

/-! ### Stores -/
def AV.one : AV → Bool
  | .agg _ => false
  | .tup _ => false
  | _ => true
noncomputable def AV.cells (v : AV) : List AV :=
  match v with
  | .agg l => l
  | v => [v]
theorem VR.cells {v : AV} {v' : Value} (h : VR μ ρ v v') : VRs μ ρ v.cells v'.cells.toList := by
  cases h <;> first
    | (rename_i h; simpa [AV.cells, Value.cells] using h)
    | (simp only [AV.cells, Value.cells]; exact .cons (by constructor <;> assumption) .nil)
theorem VR.one {v : AV} {v' : Value} (h : VR μ ρ v v') (ho : v.one = true) : v'.oneCell' = true := by
  cases h <;> first | rfl | simp [AV.one] at ho
noncomputable def storeCellsA (H : Heap) (k o : Nat) : List AV → Option Heap
  | [] => some H
  | v :: r => match H.tr.get k with
    | some (.cells c d m e) => match v.one with
      | true => match Nat.ble (Nat.succ o) m with
        | true => storeCellsA (H.set k (.cells (c.put o (some v)) d m e)) k (Nat.succ o) r
        | false => none
      | false => none
    | _ => none
theorem storeCellsA_ok {k b n : Nat} (hb : μ k = some (b, n)) : ∀ (l : List AV) (l' : List Value) (H : Heap) (w : World) (o i : Nat) (a : Addr) (H' : Heap), GR G μ ρ H w → VRs μ ρ l l' → storeCellsA H k o l = some H' → a.add i = ⟨b, o, none⟩ → a = ⟨b, o - i, none⟩ → i ≤ o →
    ∃ w', (storeCells a l' i).run P w = .ok () w' ∧ GR G μ ρ H' w' ∧ Fr G w w'
  | [], _, H, w, o, i, a, H', hG, .nil, h, _, _, _ => by
    simp only [storeCellsA, Option.some.injEq] at h; subst h
    exact ⟨w, by simp [storeCells], hG, Fr.refl _ _⟩
  | v :: r, _, H, w, o, i, a, H', hG, .cons hv hs, h, ha, ha', hio => by
    rename_i v' r'
    simp only [storeCellsA] at h
    split at h
    · rename_i c d m e hk
      split at h
      · rename_i h1
        split at h
        · rename_i h2
          have hlt : o < m := Nat.le_of_ble_eq_true h2
          obtain ⟨b1, n1, e1, e2, e3, e4, _⟩ := hG.cell hk
          rw [hb] at e1; cases e1
          obtain ⟨u, hu, _⟩ := e3 o hlt
          obtain ⟨g1, g2⟩ := hG.store hk hb hlt hv
          obtain ⟨w', q1, q2, q3⟩ := storeCellsA_ok hb r r' _ _ (Nat.succ o) (i + 1) a H' g1 hs h (by subst ha'; rw [addr_add]; congr 1; omega) (by rw [ha']; congr 1; omega) (by omega)
          refine ⟨w', ?_, q2, g2.trans q3⟩
          simp only [storeCells, Sem.run_bind, ha]
          rw [run_store P w _ _ _ (hv.one h1), hu]
          simp only [e4, Bool.false_eq_true, if_false, Result.andThen_ok]
          exact q1
        · cases h
      · cases h
    · cases h
noncomputable def storeA (P : Program) (H : Heap) (t : TypeId) (x v : AV) : Option Heap :=
  match x with
  | .ptr k o => match P.info? t with
    | some i => match Nat.beq v.cells.length i.size with
      | true => storeCellsA H k o v.cells
      | false => none
    | none => none
  | _ => none
theorem storeA_ok (hG : GR G μ ρ H w) {t : TypeId} {x v : AV} {x' v' : Value} (hx : VR μ ρ x x') (hv : VR μ ρ v v') {H' : Heap} (h : storeA P H t x v = some H') :
    ∃ w', (Instr.storeAt t x' v').run P w = .ok () w' ∧ GR G μ ρ H' w' ∧ Fr G w w' := by
  unfold storeA at h
  split at h
  · rename_i k o
    cases hx with
    | @ptr _ _ b n hb =>
    cases hi : P.info? t with
    | none => simp [hi] at h
    | some i =>
      simp only [hi] at h
      split at h
      · rename_i hl
        have hl := Nat.eq_of_beq_eq_true hl
        have hlen := hv.cells.length
        obtain ⟨w', q1, q2, q3⟩ := storeCellsA_ok (P := P) hb v.cells v'.cells.toList H w o 0 ⟨b, o, none⟩ H' hG hv.cells h rfl rfl (Nat.zero_le _)
        refine ⟨w', ?_, q2, q3⟩
        have hsz : v'.cells.size = i.size := by rw [← hl, hlen]; simp
        simp only [Instr.storeAt, Instr.sureAddr, storeVar, Sem.run_bind, Sem.run_pure, Result.andThen_ok, run_size hi]
        simp only [hsz, ne_eq, not_true_eq_false, if_false]
        exact q1
      · cases h
  · cases h

/-! ### New variables -/
noncomputable def ofList : List AV → Nat → Tr AV → Tr AV
  | [], _, t => t
  | v :: r, i, t => ofList r (Nat.succ i) (t.put i (some v))
theorem cget_ofList (d : AV) : ∀ (l : List AV) (i : Nat) (t : Tr AV) (j : Nat), cget (ofList l i t) d j = if h : i ≤ j ∧ j - i < l.length then l[j - i]'h.2 else cget t d j
  | [], i, t, j => by simp [ofList]
  | v :: r, i, t, j => by
    simp only [ofList]
    rw [cget_ofList d r (Nat.succ i)]
    by_cases h1 : i + 1 ≤ j ∧ j - (i + 1) < r.length
    · rw [dif_pos h1, dif_pos ⟨by omega, by simp; omega⟩]
      have : j - i = (j - (i + 1)) + 1 := by omega
      simp [this]
    · rw [dif_neg h1, cget_put]
      by_cases h2 : j = i
      · subst h2; simp
      · rw [if_neg h2, dif_neg (fun h => h1 ⟨by omega, by have := h.2; simp at this; omega⟩)]
noncomputable def blockOf (l : List AV) (e : TypeId) : AObj := .cells (ofList l 0 .e) .nilp l.length e
theorem blockOf_ok {l : List AV} {l' : List Value} (h : VRs μ ρ l l') (e : TypeId) : OR μ ρ l'.length (.cells l'.toArray e (0, 0)) (blockOf l e) := by
  refine ⟨l'.toArray, rfl, by simp, by rw [h.length]; exact Nat.le_refl _, fun i hi => ?_⟩
  rw [cget_ofList, dif_pos ⟨Nat.zero_le _, by simpa using hi⟩]
  obtain ⟨v', h1, h2⟩ := h.get (List.getElem?_eq_getElem (show i < l.length from hi))
  exact ⟨v', by simpa using h1, by simpa using h2⟩
noncomputable def zeroA (P : Program) (t : TypeId) : Option AV :=
  match P.info? t with
  | some i => match i.zero with
    | some z => ofV z
    | none => none
  | none => none
theorem zeroA_ok {t : TypeId} {v : AV} (h : zeroA P t = some v) : ∃ i z, P.info? t = some i ∧ i.zero = some z ∧ VR μ ρ v z := by
  unfold zeroA at h
  split at h
  · rename_i i hi
    split at h
    · rename_i z hz; exact ⟨i, z, hi, hz, ofV_ok h⟩
    · cases h
  · cases h
/-- What makes a block: the block; the value, by the block's number. -/
abbrev Mk := AObj × (Nat → AV)
/-- An instruction that makes one block and gives a value that leads to it. -/
def MkOK (P : Program) (μ : Mu) (ρ : Nat → Int) (s : Sem Value) (w : World) (m : Mk) : Prop :=
  ∃ (x : Obj) (n : Nat) (v' : Value) (w0 : World), (w0 = w ∨ w0 = w.drew) ∧ s.run P w = .ok v' (w0.alloc x) ∧ OR μ ρ n x m.1 ∧ ∀ (id : Nat) (μ' : Mu), μ' id = some (w.heap.size, n) → VR μ' ρ (m.2 id) v'
noncomputable def Mk.at (m : Mk) (H : Heap) : AV × Heap := (m.2 H.next, H.add m.1)
theorem MkOK.val (hG : GR G μ ρ H w) {s : Sem Value} {m : Mk} (h : MkOK P μ ρ s w m) : ValOK P G μ ρ s w (m.at H).1 (m.at H).2 := by
  obtain ⟨x, n, v', w0, hw0, h1, h2, h3⟩ := h
  have hG0 : GR G μ ρ H w0 := by rcases hw0 with rfl | rfl; exact hG; exact hG.drew
  have hF0 : Fr G w w0 := by rcases hw0 with rfl | rfl; exact Fr.refl _ _; exact Fr.drew _ _
  have hs0 : w0.heap.size = w.heap.size := by rcases hw0 with rfl | rfl <;> rfl
  obtain ⟨g1, g2, g3⟩ := hG0.alloc h2
  refine ⟨v', _, _, h1, g2, h3 H.next _ (by rw [Mu.upd_self, hs0]), g1, hF0.trans g3⟩
/-- A new variable that holds v. -/
noncomputable def newM (t : TypeId) (v : AV) : Mk := (blockOf v.cells t, fun id => .ptr id 0)
noncomputable def newA (H : Heap) (t : TypeId) (v : AV) : AV × Heap := (newM t v).at H
theorem newM_ok (t : TypeId) {v : AV} {v' : Value} (hv : VR μ ρ v v') : ∃ b x, b = w.heap.size ∧ (newVar t v').run P w = .ok ⟨b, 0, none⟩ (w.alloc x) ∧ OR μ ρ v'.cells.size x (newM t v).1 := by
  have ho := blockOf_ok hv.cells t
  refine ⟨w.heap.size, .cells v'.cells t (0, 0), rfl, by simp [newVar, newRow], ?_⟩
  simpa [newM] using ho
theorem box_mk (t : TypeId) {v : AV} {v' : Value} (hv : VR μ ρ v v') : MkOK P μ ρ (Instr.box t v') w (newM t v) := by
  obtain ⟨b, x, rfl, h1, h2⟩ := newM_ok (P := P) (w := w) t hv
  exact ⟨x, _, _, w, .inl rfl, by simp [Instr.box, h1], h2, fun id μ' h => .ptr h⟩
theorem box_ok (hG : GR G μ ρ H w) (t : TypeId) {v : AV} {v' : Value} (hv : VR μ ρ v v') : ValOK P G μ ρ (Instr.box t v') w (newA H t v).1 (newA H t v).2 := (box_mk t hv).val hG
theorem alloc_mk (t : TypeId) {z : AV} (hz : zeroA P t = some z) : MkOK P μ ρ (Instr.alloc t true (.tuple #[])) w (newM t z) := by
  obtain ⟨i, z', hi, hz', hv⟩ := zeroA_ok (μ := μ) (ρ := ρ) hz
  obtain ⟨b, x, rfl, h1, h2⟩ := newM_ok (P := P) (w := w) t hv
  exact ⟨x, _, _, w, .inl rfl, by simp [Instr.alloc, run_zero hi hz', h1], h2, fun id μ' h => .ptr h⟩
theorem alloc_ok (hG : GR G μ ρ H w) (t : TypeId) {z : AV} (hz : zeroA P t = some z) : ValOK P G μ ρ (Instr.alloc t true (.tuple #[])) w (newA H t z).1 (newA H t z).2 := (alloc_mk t hz).val hG
end
end Vx
