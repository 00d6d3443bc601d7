/-
  Composite literals, fields, elements, slices.
-/
import Derived.Test.YtmgejgbomglegaaGreatDoorVx4
namespace Vx
open Go

/-! ### Lists -/
noncomputable def over {α : Type} : List α → List α → List α
  | base, [] => base
  | [], _ :: _ => []
  | _ :: base, y :: c => y :: over base c
noncomputable def splice {α : Type} : Nat → List α → List α → List α
  | 0, base, c => over base c
  | _ + 1, [], _ => []
  | n + 1, x :: base, c => x :: splice n base c
theorem over_get {α : Type} : ∀ (base c : List α) (i : Nat), c.length ≤ base.length → (over base c)[i]? = if i < c.length then c[i]? else base[i]?
  | base, [], i, _ => by cases base <;> simp [over]
  | [], y :: c, i, h => by simp at h
  | x :: base, y :: c, 0, h => by simp [over]
  | x :: base, y :: c, i + 1, h => by
    simp only [over, List.getElem?_cons_succ, List.length_cons, Nat.add_lt_add_iff_right]
    exact over_get base c i (by simpa using h)
theorem splice_get {α : Type} : ∀ (n : Nat) (base c : List α) (i : Nat), n + c.length ≤ base.length → (splice n base c)[i]? = if n ≤ i ∧ i < n + c.length then c[i - n]? else base[i]?
  | 0, base, c, i, h => by simp only [splice]; rw [over_get base c i (by omega)]; simp
  | n + 1, [], c, i, h => by simp at h
  | n + 1, x :: base, c, 0, h => by simp [splice]
  | n + 1, x :: base, c, i + 1, h => by
    simp only [splice, List.getElem?_cons_succ]
    rw [splice_get n base c i (by simp at h; omega)]
    by_cases hc : n ≤ i ∧ i < n + c.length
    · rw [if_pos hc, if_pos (by omega)]; congr 1; omega
    · rw [if_neg hc, if_neg (by omega)]
theorem foldl_set (off : Nat) : ∀ (l : List Value) (j : Nat) (cells : Array Value) (i : Nat), off + j + l.length ≤ cells.size →
    ((l.zipIdx j).foldl (fun cs (x : Value × Nat) => cs.setIfInBounds (off + x.2) x.1) cells)[i]? = if off + j ≤ i ∧ i < off + j + l.length then l[i - (off + j)]? else cells[i]?
  | [], j, cells, i, _ => by simp; omega
  | x :: l, j, cells, i, h => by
    simp only [List.zipIdx_cons, List.foldl_cons]
    rw [foldl_set off l (j + 1) _ i (by simp at h ⊢; omega)]
    by_cases hi : i = off + j
    · subst hi
      rw [if_neg (by omega), if_pos (by simp), Array.getElem?_setIfInBounds_self_of_lt (by simp at h; omega)]
      simp
    · rw [Array.getElem?_setIfInBounds_ne (Ne.symm hi)]
      by_cases hc : off + (j + 1) ≤ i ∧ i < off + (j + 1) + l.length
      · rw [if_pos hc, if_pos (by simp; omega)]
        have : i - (off + j) = (i - (off + (j + 1))) + 1 := by omega
        rw [this, List.getElem?_cons_succ]
      · rw [if_neg hc, if_neg (by simp; omega)]
theorem foldl_splice (off : Nat) (c cells : Array Value) (h : off + c.size ≤ cells.size) :
    (c.zipIdx.foldl (fun cs (x, j) => cs.setIfInBounds (off + j) x) cells).toList = splice off cells.toList c.toList := by
  apply List.ext_getElem?
  intro i
  rw [splice_get off _ _ i (by simpa using h)]
  have e := foldl_set off c.toList 0 cells i (by simpa using h)
  have e2 : c.zipIdx.foldl (fun cs (x, j) => cs.setIfInBounds (off + j) x) cells = (c.toList.zipIdx 0).foldl (fun cs (x : Value × Nat) => cs.setIfInBounds (off + x.2) x.1) cells := by
    rw [← Array.foldl_toList]; simp
  rw [e2]
  simp only [Nat.add_zero] at e
  rw [Array.getElem?_toList, e]
  simp

section
variable {P : Program} {G : Gd} {μ : Mu} {ρ : Nat → Int} {H : Heap} {w : World}
theorem VRs.over : ∀ {base : List AV} {base' : List Value} {c : List AV} {c' : List Value}, VRs μ ρ base base' → VRs μ ρ c c' → VRs μ ρ (over base c) (Vx.over base' c')
  | _, _, _, _, .nil, .nil => .nil
  | _, _, _, _, .nil, .cons _ _ => .nil
  | _, _, _, _, .cons h hs, .nil => .cons h hs
  | _, _, _, _, .cons _ hs, .cons k ks => .cons k (VRs.over hs ks)
theorem VRs.splice : ∀ (n : Nat) {base : List AV} {base' : List Value} {c : List AV} {c' : List Value}, VRs μ ρ base base' → VRs μ ρ c c' → VRs μ ρ (splice n base c) (Vx.splice n base' c')
  | 0, _, _, _, _, h, k => VRs.over h k
  | _ + 1, _, _, _, _, .nil, _ => .nil
  | n + 1, _, _, _, _, .cons h hs, k => .cons h (VRs.splice n hs k)

/-- Parts by their places. -/
inductive PRs (μ : Mu) (ρ : Nat → Int) : List (Nat × AV) → List (Nat × Value) → Prop
  | nil : PRs μ ρ [] []
  | cons {i : Nat} {v : AV} {v' : Value} {l : List (Nat × AV)} {l' : List (Nat × Value)} (h : VR μ ρ v v') (hs : PRs μ ρ l l') : PRs μ ρ ((i, v) :: l) ((i, v') :: l')
noncomputable def fillA (place : Nat → Option (Nat × Nat)) : List AV → List (Nat × AV) → Option (List AV)
  | cells, [] => some cells
  | cells, (i, v) :: rest => match place i with
    | some (off, size) => match Nat.beq v.cells.length size with
      | true => match Nat.ble (Nat.add off size) cells.length with
        | true => fillA place (splice off cells v.cells) rest
        | false => none
      | false => none
    | none => none
theorem fillA_ok (place place' : Nat → Option (Nat × Nat)) (hp : ∀ i x, place i = some x → place' i = some x) : ∀ (parts : List (Nat × AV)) (parts' : List (Nat × Value)) (cells : List AV) (cells' : Array Value) (r : List AV), VRs μ ρ cells cells'.toList → PRs μ ρ parts parts' →
    fillA place cells parts = some r → ∃ r' : Array Value, Instr.fill place' cells' parts' = some r' ∧ VRs μ ρ r r'.toList
  | [], _, cells, cells', r, hc, .nil, h => by
    simp only [fillA, Option.some.injEq] at h; subst h
    exact ⟨cells', rfl, hc⟩
  | (i, v) :: rest, _, cells, cells', r, hc, .cons hv hs, h => by
    rename_i v' rest'
    simp only [fillA] at h
    split at h
    · rename_i off size hpl
      split at h
      · rename_i h1
        split at h
        · rename_i h2
          have h1 := Nat.eq_of_beq_eq_true h1
          have h2 := Nat.le_of_ble_eq_true h2
          have hl1 := hv.cells.length
          have hl2 := hc.length
          simp only [Array.length_toList] at hl1 hl2
          simp only [Nat.add_eq] at h2
          have hfit : off + v'.cells.size ≤ cells'.size := by omega
          obtain ⟨r', q1, q2⟩ := fillA_ok place place' hp rest rest' _ (v'.cells.zipIdx.foldl (fun cs (x, j) => cs.setIfInBounds (off + j) x) cells') r
            (by rw [foldl_splice off _ _ hfit]; exact VRs.splice off hc hv.cells) hs h
          refine ⟨r', ?_, q2⟩
          simp only [Instr.fill, hp _ _ hpl]
          rw [if_neg (by simp; omega)]
          exact q1
        · cases h
      · cases h
    · cases h
noncomputable def placesA (P : Program) : List Field → Option (List (Nat × Nat))
  | [] => some []
  | f :: r => match P.info? f.type with
    | some i => match placesA P r with
      | some l => some ((f.offset, i.size) :: l)
      | none => none
    | none => none
theorem placesA_ok : ∀ (fs : List Field) (l : List (Nat × Nat)), placesA P fs = some l → fs.mapM (fun f => (P.info? f.type).map fun i => (f.offset, i.size)) = some l
  | [], l, h => by simp [placesA] at h; subst h; simp
  | f :: r, l, h => by
    simp only [placesA] at h
    cases hi : P.info? f.type with
    | none => simp [hi] at h
    | some i =>
      cases hr : placesA P r with
      | none => simp [hi, hr] at h
      | some l2 =>
        simp only [hi, hr, Option.some.injEq] at h
        subst h
        simp [List.mapM_cons, hi, placesA_ok r l2 hr]
noncomputable def nth {α : Type} : List α → Nat → Option α
  | [], _ => none
  | x :: r, n => match n with
    | 0 => some x
    | n + 1 => nth r n
theorem nth_eq {α : Type} : ∀ (l : List α) (n : Nat), nth l n = l[n]?
  | [], _ => by simp [nth]
  | x :: r, 0 => by simp [nth]
  | x :: r, n + 1 => by simp only [nth, List.getElem?_cons_succ]; exact nth_eq r n
noncomputable def builtA (P : Program) (t : TypeId) (parts : List (Nat × AV)) : Option (List AV) :=
  match zeroA P t with
  | some z => match P.underlying t with
    | some (.array _ e) => match P.info? e with
      | some ie => fillA (fun i => some (Nat.mul i ie.size, ie.size)) z.cells parts
      | none => none
    | some (.struct fields) => match placesA P fields.toList with
      | some places => fillA (nth places) z.cells parts
      | none => none
    | _ => none
  | none => none
theorem build_ok (hG : GR G μ ρ H w) {t : TypeId} {parts : List (Nat × AV)} {parts' : Array (Nat × Value)} (hp : PRs μ ρ parts parts'.toList) {r : List AV} (h : builtA P t parts = some r) :
    ValOK P G μ ρ (Instr.build t parts') w (.agg r) H := by
  unfold builtA at h
  cases hz : zeroA P t with
  | none => simp [hz] at h
  | some z =>
    obtain ⟨i, z', hi, hz', hv⟩ := zeroA_ok (μ := μ) (ρ := ρ) hz
    simp only [hz] at h
    split at h
    · rename_i n e hu
      cases hie : P.info? e with
      | none => simp [hie] at h
      | some ie =>
        simp only [hie] at h
        obtain ⟨r', q1, q2⟩ := fillA_ok _ (fun i => some (i * ie.size, ie.size)) (fun i x hx => hx) parts parts'.toList z.cells z'.cells r hv.cells hp h
        refine ValOK.pure hG (v' := .agg r') (run_build w t parts' r' (by unfold Program.built; simp only [hi, hu, hz', hie]; exact q1)) ?_
        have := VR.agg q2; simpa using this
    · rename_i fields hu
      cases hpl : placesA P fields.toList with
      | none => simp [hpl] at h
      | some places =>
        simp only [hpl] at h
        obtain ⟨r', q1, q2⟩ := fillA_ok _ (places.toArray[·]?) (fun i x hx => by rw [nth_eq] at hx; simpa using hx) parts parts'.toList z.cells z'.cells r hv.cells hp h
        refine ValOK.pure hG (v' := .agg r') (run_build w t parts' r' (by unfold Program.built; simp only [hi, hu, hz', placesA_ok _ _ hpl]; exact q1)) ?_
        have := VR.agg q2; simpa using this
    · cases h

/-! ### Slices that are written out -/
noncomputable def repA {α : Type} (z : List α) : Nat → List α
  | 0 => []
  | n + 1 => z ++ repA z n
theorem repA_length {α : Type} (z : List α) : ∀ n, (repA z n).length = n * z.length
  | 0 => by simp [repA]
  | n + 1 => by simp only [repA, List.length_append, repA_length z n, Nat.succ_mul]; omega
theorem repA_get {α : Type} (z : List α) (hz : 0 < z.length) : ∀ (n i : Nat), i < n * z.length → (repA z n)[i]? = z[i % z.length]?
  | 0, i, h => by simp at h
  | n + 1, i, h => by
    simp only [repA]
    by_cases hi : i < z.length
    · rw [List.getElem?_append_left hi, Nat.mod_eq_of_lt hi]
    · rw [List.getElem?_append_right (by omega), repA_get z hz n (i - z.length) (by rw [Nat.succ_mul] at h; omega)]
      congr 1
      exact (Nat.mod_eq_sub_mod (Nat.le_of_not_lt hi)).symm
theorem VRs.rep {z : List AV} {z' : List Value} (h : VRs μ ρ z z') : ∀ n, VRs μ ρ (repA z n) (repA z' n)
  | 0 => .nil
  | n + 1 => h.append (VRs.rep h n)
theorem rep_arr (z : Array Value) (n : Nat) (hz : 0 < z.size) : ((Array.range (n * z.size)).map (z[· % z.size]!)).toList = repA z.toList n := by
  apply List.ext_getElem?
  intro i
  by_cases hi : i < n * z.size
  · rw [repA_get z.toList (by simpa using hz) n i (by simpa using hi)]
    have hm : i % z.size < z.size := Nat.mod_lt _ hz
    simp [hi, hm]
  · rw [List.getElem?_eq_none (by simpa using Nat.le_of_not_lt hi), List.getElem?_eq_none (by rw [repA_length]; simpa using Nat.le_of_not_lt hi)]
noncomputable def buildSliceM (P : Program) (t : TypeId) (len : Nat) (parts : List (Nat × AV)) : Option Mk :=
  match P.underlying t with
  | some (.slice e) => match P.info? e with
    | some ie => match zeroA P e with
      | some z => match Nat.beq z.cells.length ie.size with
        | true => match Nat.ble 1 ie.size with
          | true => match Nat.ble (Nat.mul len ie.size) 65536 with
            | true => match fillA (fun i => some (Nat.mul i ie.size, ie.size)) (repA z.cells len) parts with
              | some cells => some (blockOf cells e, fun id => .sl id 0 len len ie.size)
              | none => none
            | false => none
          | false => none
        | false => none
      | none => none
    | none => none
  | _ => none
theorem fillA_length {place : Nat → Option (Nat × Nat)} : ∀ (parts : List (Nat × AV)) (cells r : List AV), fillA place cells parts = some r → r.length = cells.length
  | [], cells, r, h => by simp only [fillA, Option.some.injEq] at h; rw [h]
  | (i, v) :: rest, cells, r, h => by
    simp only [fillA] at h
    split at h
    · rename_i off size hpl
      split at h
      · rename_i h1
        split at h
        · rename_i h2
          have h1 := Nat.eq_of_beq_eq_true h1
          have h2 := Nat.le_of_ble_eq_true h2
          simp only [Nat.add_eq] at h2
          rw [fillA_length rest _ r h]
          apply Nat.le_antisymm
          · refine Nat.le_of_not_lt fun hc => ?_
            have e := splice_get off cells v.cells cells.length (by omega)
            rw [if_neg (by omega)] at e
            have : (splice off cells v.cells)[cells.length]? = none := by rw [e]; simp
            rw [List.getElem?_eq_none_iff] at this; omega
          · refine Nat.le_of_not_lt fun hc => ?_
            have e := splice_get off cells v.cells (splice off cells v.cells).length (by omega)
            rw [List.getElem?_eq_none (Nat.le_refl _)] at e
            split at e
            · rename_i h3
              have := e.symm
              rw [List.getElem?_eq_none_iff] at this; omega
            · have := e.symm
              rw [List.getElem?_eq_none_iff] at this; omega
        · cases h
      · cases h
    · cases h
theorem buildSlice_mk {t : TypeId} {len : Nat} {parts : List (Nat × AV)} {parts' : Array (Nat × Value)} (hp : PRs μ ρ parts parts'.toList) {m : Mk} (h : buildSliceM P t len parts = some m) :
    MkOK P μ ρ (Instr.buildSlice t len parts') w m := by
  unfold buildSliceM at h
  split at h
  · rename_i e hu
    cases hie : P.info? e with
    | none => simp [hie] at h
    | some ie =>
      cases hz : zeroA P e with
      | none => simp [hie, hz] at h
      | some z =>
        obtain ⟨i, z', hi, hz', hv⟩ := zeroA_ok (μ := μ) (ρ := ρ) hz
        rw [hie] at hi; cases hi
        simp only [hie, hz] at h
        split at h
        · rename_i h1
          split at h
          · rename_i h2
            split at h
            · rename_i h3
              split at h
              · rename_i cells hf
                cases h
                have h1 := Nat.eq_of_beq_eq_true h1
                have h2 := Nat.le_of_ble_eq_true h2
                have h3 := Nat.le_of_ble_eq_true h3
                simp only [Nat.mul_eq] at h3
                have hl := hv.cells.length
                simp only [Array.length_toList] at hl
                have hzs : z'.cells.size = ie.size := by omega
                have hrep := rep_arr z'.cells len (by omega)
                obtain ⟨r', q1, q2⟩ := fillA_ok _ (fun i => some (i * ie.size, ie.size)) (fun i x hx => hx) parts parts'.toList (repA z.cells len) ((Array.range (len * z'.cells.size)).map (z'.cells[· % z'.cells.size]!)) cells
                  (by rw [hrep]; exact VRs.rep hv.cells len) hp hf
                have hcl : cells.length = len * ie.size := by rw [fillA_length _ _ _ hf, repA_length, h1]
                have ho := blockOf_ok q2 e
                rw [Array.toArray_toList] at ho
                refine ⟨.cells r' e (0, 0), _, .slice (some ⟨w.heap.size, 0, none⟩) len len, w, .inl rfl, ?_, ho, fun id μ' hid => .sl hid (Nat.le_refl _) ?_ (Nat.le_refl _)⟩
                · rw [hzs] at q1
                  unfold Instr.buildSlice
                  rw [Sem.run_bind, run_und hu]
                  simp only [Result.andThen_ok, Sem.run_bind, run_size hie]
                  rw [if_neg (by omega)]
                  by_cases hl0 : len * ie.size = 0
                  · simp only [hl0] at q1 ⊢
                    have hr0 : ∀ f : Nat → Value, Array.map f (Array.range 0) = #[] := fun f => by rw [show Array.range 0 = #[] from rfl]; simp
                    rw [hr0] at q1
                    simp only [if_true, Sem.run_bind, Sem.run_pure, Result.andThen_ok, hr0, q1]
                    simp [newRow]
                  · simp only [hl0, if_false, Sem.run_bind, run_zero hie hz', Result.andThen_ok, Sem.run_pure, hzs, q1]
                    simp [newRow]
                · have := q2.length
                  simp only [Array.length_toList] at this
                  simp only [Array.length_toList]
                  rw [← this, hcl]; omega
              · cases h
            · cases h
          · cases h
        · cases h
  · cases h
theorem buildSlice_ok (hG : GR G μ ρ H w) {t : TypeId} {len : Nat} {parts : List (Nat × AV)} {parts' : Array (Nat × Value)} (hp : PRs μ ρ parts parts'.toList) {m : Mk} (h : buildSliceM P t len parts = some m) :
    ValOK P G μ ρ (Instr.buildSlice t len parts') w (m.at H).1 (m.at H).2 := (buildSlice_mk hp h).val hG
end
end Vx
