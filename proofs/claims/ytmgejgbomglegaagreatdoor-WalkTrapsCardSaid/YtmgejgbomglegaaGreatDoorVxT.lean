/-
  Maps; likeness of structs and pointers; what a builder of strings asks for; functions without a body.
-/
import Derived.Test.YtmgejgbomglegaaGreatDoorVx9
import Derived.Lib.Builder
import Derived.MapKept
namespace Vx
open Go
section
variable {P : Program} {G : Gd} {μ : Mu} {ρ : Nat → Int} {H : Heap} {w : World}

/-! ### Maps -/
noncomputable def makeMapM : Mk := (.map [], fun id => .mp id)
theorem makeMap_mk (t : TypeId) : MkOK P μ ρ (Instr.makeMap t none) w makeMapM :=
  ⟨.map #[] 0, 0, .map (some w.heap.size), w, .inl rfl, rfl, ⟨#[], 0, rfl, .nil, .nil⟩, fun _ _ h => .mp h⟩
noncomputable def keyB (d : TypeDesc) (a b : AV) : Option Bool :=
  match d with
  | .string => match strL a with
    | some l => match strL b with
      | some r => bytesE l r
      | none => none
    | none => none
  | .int _ => match a with
    | .int k (.lit x) => match b with
      | .int k' (.lit y) => match kindB k k' with
        | true => some (ibeq x y)
        | false => none
      | _ => none
    | _ => none
  | _ => none
noncomputable def isKeyA (d : TypeDesc) (a : AV) : Bool :=
  match d with
  | .string => match strL a with
    | some _ => true
    | none => false
  | .int kd => match a with
    | .int k _ => kindB k kd
    | _ => false
  | _ => false
theorem isKeyA_ok {d : TypeDesc} {a : AV} {a' : Value} (ha : VR μ ρ a a') (h : isKeyA d a = true) : MapKept.IsKey d a' := by
  unfold isKeyA at h
  split at h
  · split at h
    · rename_i l hl
      obtain ⟨s, rfl, _⟩ := strL_ok ha hl
      trivial
    · cases h
  · split at h
    · cases ha
      exact kindB_eq h
    · cases h
  · cases h
theorem keyB_ok {d : TypeDesc} {a b : AV} {a' b' : Value} (ha : VR μ ρ a a') (hb : VR μ ρ b b') {r : Bool} (h : keyB d a b = some r) : Instr.sameNow d a' b' = some r ∧ (r = true → b' = a') := by
  unfold keyB at h
  split at h
  · split at h
    · rename_i l hl
      split at h
      · rename_i l2 hl2
        obtain ⟨s, rfl, h1⟩ := strL_ok ha hl
        obtain ⟨u, rfl, h2⟩ := strL_ok hb hl2
        have := h1.eq h2 h
        have e : (s == u) = r := by rw [beq_toListBytes, ByteArray.toList_eq, ByteArray.toList_eq]; exact this
        refine ⟨by simp [Instr.sameNow, e], fun hr => ?_⟩
        subst hr
        have h3 := Array.toList_inj.1 (eq_of_beq this)
        have : u = s := by cases s; cases u; simp only at h3; rw [h3]
        rw [this]
      · cases h
    · cases h
  · split at h
    · rename_i k x
      split at h
      · rename_i k' y
        split at h
        · rename_i hk
          have hk := kindB_eq hk
          subst hk
          cases h
          cases ha with
          | int e1 => cases hb with
            | int e2 =>
            simp only [SE.val] at e1 e2
            subst e1; subst e2
            rw [ibeq_eq]
            refine ⟨by simp [Instr.sameNow], fun hr => ?_⟩
            have := eq_of_beq hr
            rw [this]
        · cases h
      · cases h
    · cases h
  · cases h
noncomputable def findA (d : TypeDesc) (k : AV) : List (AV × AV) → Nat → Option (Option (Nat × AV))
  | [], _ => some none
  | (a, v) :: r, i => match keyB d k a with
    | some true => some (some (i, v))
    | some false => findA d k r (Nat.succ i)
    | none => none
theorem findA_ok {d : TypeDesc} {k : AV} {k' : Value} (hk : VR μ ρ k k') : ∀ {es : List (AV × AV)} {l : List MapEntry} {i : Nat}, VRs μ ρ (es.map Prod.fst) (l.map (·.key)) → VRs μ ρ (es.map Prod.snd) (l.map (·.val)) → ∀ {r : Option (Nat × AV)}, findA d k es i = some r →
    (r = none ∧ Instr.findNow d k' l i = some none) ∨ ∃ j v e, r = some (i + j, v) ∧ Instr.findNow d k' l i = some (some (i + j, e.val)) ∧ l[j]? = some e ∧ e.key = k' ∧ VR μ ρ v e.val
  | [], [], i, _, _, r, h => by
    simp only [findA, Option.some.injEq] at h
    subst h; exact .inl ⟨rfl, rfl⟩
  | [], _ :: _, i, h1, _, r, _ => by cases h1
  | (a, v) :: es, [], i, h1, _, r, _ => by cases h1
  | (a, v) :: es, e :: l, i, .cons q1 q2, .cons q3 q4, r, h => by
    simp only [findA] at h
    split at h
    · rename_i hb
      cases h
      obtain ⟨s1, s2⟩ := keyB_ok hk q1 hb
      exact .inr ⟨0, v, e, rfl, by simp [Instr.findNow, s1], rfl, s2 rfl, q3⟩
    · rename_i hb
      obtain ⟨s1, s2⟩ := keyB_ok hk q1 hb
      rcases findA_ok hk q2 q4 h with ⟨rfl, g⟩ | ⟨j, u, e2, rfl, g1, g2, g3, g4⟩
      · exact .inl ⟨rfl, by simp [Instr.findNow, s1, g]⟩
      · have e1 : Nat.succ i + j = i + (j + 1) := by omega
        rw [e1] at g1 ⊢
        exact .inr ⟨j + 1, u, e2, rfl, by simp [Instr.findNow, s1, g1], by simpa using g2, g3, g4⟩
    · cases h
noncomputable def entriesA (H : Heap) (x : AV) : Option (List (AV × AV)) :=
  match x with
  | .nilm => some []
  | .mp k => match H.tr.get k with
    | some (.map es) => some es
    | _ => none
  | _ => none
noncomputable def lookupA (P : Program) (H : Heap) (t : TypeId) (x ix : AV) (ok : Bool) : Option AV :=
  match P.underlying t with
  | some (.map kt et) => match P.underlying kt with
    | some d => match isKeyA d ix with
      | true => match entriesA H x with
        | some es => match findA d ix es 0 with
          | some (some (_, v)) => match ok with
            | true => some (.tup [v, .bool true])
            | false => some v
          | some none => match zeroA P et with
            | some z => match ok with
              | true => some (.tup [z, .bool false])
              | false => some z
            | none => none
          | none => none
        | none => none
      | false => none
    | none => none
  | _ => none
theorem lookup_ok (hG : GR G μ ρ H w) {t : TypeId} {x ix : AV} {x' ix' : Value} (hx : VR μ ρ x x') (hix : VR μ ρ ix ix') {ok : Bool} {v : AV} (h : lookupA P H t x ix ok = some v) : ValOK P G μ ρ (Instr.lookup t x' ix' ok) w v H := by
  unfold lookupA at h
  split at h
  · rename_i kt et hu
    split at h
    · rename_i d hd
      split at h
      · rename_i hkey
        have hkey := isKeyA_ok hix hkey
        split at h
        · rename_i es hes
          have hent : ∃ l : List MapEntry, VRs μ ρ (es.map Prod.fst) (l.map (·.key)) ∧ VRs μ ρ (es.map Prod.snd) (l.map (·.val)) ∧
              (Instr.lookup t x' ix' ok).run P w = ((do
                Instr.checkKey l.toArray.isEmpty 10000 kt ix'
                let (v, o) ← match ← Instr.findKey kt ix' l with
                  | some (_, v) => pure (v, true)
                  | none => pure (← zeroValue et, false)
                pure (if ok then .tuple #[v, .bool o] else v) : Sem Value)).run P w := by
            unfold entriesA at hes
            split at hes
            · cases hes; cases hx
              exact ⟨[], .nil, .nil, by simp [Instr.lookup, run_underlying hu]; rfl⟩
            · rename_i k
              split at hes
              · rename_i es' hk
                cases hes
                cases hx with
                | @mp _ b n hb =>
                obtain ⟨b1, n1, y, e1, _, e3, l, clock, rfl, r1, r2⟩ := hG.obj k _ hk
                rw [hb] at e1; cases e1
                exact ⟨l.toList, r1, r2, by simp [Instr.lookup, run_underlying hu, MapKept.run_getObj_map e3]; rfl⟩
              · cases hes
            · cases hes
          obtain ⟨l, r1, r2, hrun⟩ := hent
          split at h
          · rename_i j u hf
            rcases findA_ok hix r1 r2 hf with ⟨g, _⟩ | ⟨j', u', e, g0, g1, _, _, g4⟩
            · cases g
            · cases g0
              have hfk := MapKept.run_findKey (w := w) hd g1
              split at h <;> cases h
              · refine ValOK.pure hG (v' := .tuple #[e.val, .bool true]) ?_ (.tup (l' := [e.val, .bool true]) (.cons g4 (.cons .bool .nil)))
                rw [hrun]; simp [MapKept.run_checkKey hd hkey, hfk]
              · refine ValOK.pure hG ?_ g4
                rw [hrun]; simp [MapKept.run_checkKey hd hkey, hfk]
          · rename_i hf
            rcases findA_ok hix r1 r2 hf with ⟨_, g⟩ | ⟨j', u', e, g0, _⟩
            · have hfk := MapKept.run_findKey (w := w) hd g
              split at h
              · rename_i z hz
                obtain ⟨i, z', hi, hz', hv⟩ := zeroA_ok (μ := μ) (ρ := ρ) hz
                split at h <;> cases h
                · refine ValOK.pure hG (v' := .tuple #[z', .bool false]) ?_ (.tup (l' := [z', .bool false]) (.cons hv (.cons .bool .nil)))
                  rw [hrun]; simp [MapKept.run_checkKey hd hkey, hfk, run_zero hi hz']
                · refine ValOK.pure hG ?_ hv
                  rw [hrun]; simp [MapKept.run_checkKey hd hkey, hfk, run_zero hi hz']
              · cases h
            · cases g0
          · cases h
        · cases h
      · cases h
    · cases h
  · cases h
noncomputable def setEnt : List (AV × AV) → Nat → AV × AV → List (AV × AV)
  | [], _, _ => []
  | x :: r, n, y => match n with
    | 0 => y :: r
    | n + 1 => x :: setEnt r n y
noncomputable def mapUpdateA (P : Program) (H : Heap) (t : TypeId) (m k v : AV) : Option Heap :=
  match P.underlying t with
  | some (.map kt _) => match P.underlying kt with
    | some d => match isKeyA d k with
      | true => match m with
        | .mp km => match H.tr.get km with
          | some (.map es) => match findA d k es 0 with
            | some none => some (H.set km (.map (es ++ [(k, v)])))
            | some (some (i, _)) => some (H.set km (.map (setEnt es i (k, v))))
            | none => none
          | _ => none
        | _ => none
      | false => none
    | none => none
  | _ => none
theorem setEnt_ok {k v : AV} {k' v' : Value} (hk : VR μ ρ k k') (hv : VR μ ρ v v') : ∀ {es : List (AV × AV)} {l : List MapEntry} {j : Nat} (f : MapEntry → MapEntry), (∀ e, l[j]? = some e → (f e).key = k' ∧ (f e).val = v') → VRs μ ρ (es.map Prod.fst) (l.map (·.key)) → VRs μ ρ (es.map Prod.snd) (l.map (·.val)) →
    VRs μ ρ ((setEnt es j (k, v)).map Prod.fst) ((l.modify j f).map (·.key)) ∧ VRs μ ρ ((setEnt es j (k, v)).map Prod.snd) ((l.modify j f).map (·.val))
  | [], [], j, f, _, _, _ => by simp only [setEnt]; cases j <;> exact ⟨.nil, .nil⟩
  | [], _ :: _, j, f, _, h1, _ => by cases h1
  | (a, x) :: es, [], j, f, _, h1, _ => by cases h1
  | (a, x) :: es, e :: l, 0, f, hf, .cons q1 q2, .cons q3 q4 => by
    obtain ⟨f1, f2⟩ := hf e rfl
    simp only [setEnt, List.modify_zero_cons, List.map_cons]
    rw [f1, f2]
    exact ⟨.cons hk q2, .cons hv q4⟩
  | (a, x) :: es, e :: l, j + 1, f, hf, .cons q1 q2, .cons q3 q4 => by
    obtain ⟨g1, g2⟩ := setEnt_ok hk hv (j := j) f (fun e he => hf e (by simpa using he)) q2 q4
    simp only [setEnt, List.modify_succ_cons, List.map_cons]
    exact ⟨.cons q1 g1, .cons q3 g2⟩
theorem mapUpdate_ok (hG : GR G μ ρ H w) {t : TypeId} {m k v : AV} {m' k' v' : Value} (hm : VR μ ρ m m') (hk : VR μ ρ k k') (hv : VR μ ρ v v') {H' : Heap} (h : mapUpdateA P H t m k v = some H') : ∃ w', (Instr.mapUpdate t m' k' v').run P w = .ok () w' ∧ GR G μ ρ H' w' ∧ Fr G w w' := by
  unfold mapUpdateA at h
  split at h
  · rename_i kt et hu
    split at h
    · rename_i d hd
      split at h
      · rename_i hkey0
        have hkey := isKeyA_ok hk hkey0
        split at h
        · rename_i km
          split at h
          · rename_i es hkm
            cases hm with
            | @mp _ b n hb =>
            obtain ⟨b1, n1, y, e1, _, e3, l, clock, rfl, r1, r2⟩ := hG.obj km _ hkm
            rw [hb] at e1; cases e1
            have turn : ∀ (l2 : Array MapEntry) (c2 : Nat) (es2 : List (AV × AV)), VRs μ ρ (es2.map Prod.fst) (l2.toList.map (·.key)) → VRs μ ρ (es2.map Prod.snd) (l2.toList.map (·.val)) →
                GR G μ ρ (H.set km (.map es2)) { w with heap := w.heap.setIfInBounds b (.map l2 c2) } ∧ Fr G w { w with heap := w.heap.setIfInBounds b (.map l2 c2) } := fun l2 c2 es2 q1 q2 =>
              hG.turn hkm hb (fun b' hne => (MapKept.heap_set e3).2 b' hne) (MapKept.heap_set e3).1 (by simp) ⟨l2, c2, rfl, q1, q2⟩ rfl rfl rfl
            split at h
            · rename_i hf
              cases h
              rcases findA_ok hk r1 r2 hf with ⟨_, g⟩ | ⟨j', u', e, g0, _⟩
              · have hfk := MapKept.run_findKey (w := w) hd g
                refine ⟨_, ?_, turn (l.push { key := k', val := v', born := clock }) (clock + 1) _ ?_ ?_⟩
                · simp [Instr.mapUpdate, run_underlying hu, MapKept.run_getObj_map e3, MapKept.run_checkKey hd hkey, hfk, MapKept.run_setObj_map _ e3]
                · simp only [Array.toList_push, List.map_append, List.map_cons, List.map_nil]
                  exact r1.append (.cons hk .nil)
                · simp only [Array.toList_push, List.map_append, List.map_cons, List.map_nil]
                  exact r2.append (.cons hv .nil)
              · cases g0
            · rename_i i u hf
              cases h
              rcases findA_ok hk r1 r2 hf with ⟨g, _⟩ | ⟨j, u', e, g0, g1, g2, g3, _⟩
              · cases g
              · cases g0
                have hfk := MapKept.run_findKey (w := w) hd g1
                have hsame : (Instr.keyThatStays k' k').run P w = .ok k' w := by
                  have : Instr.sameBits 10000 k' k' = true := by
                    cases d <;> cases k' <;> simp_all [MapKept.IsKey, Instr.sameBits, beq_toListBytes]
                  simp [Instr.keyThatStays, this]
                have hg : l[0 + j]? = some e := by rw [Nat.zero_add, ← Array.getElem?_toList]; exact g2
                obtain ⟨q1, q2⟩ := setEnt_ok hk hv (j := 0 + j) (l := l.toList) (fun e : MapEntry => { e with key := k', val := v' }) (fun e _ => ⟨rfl, rfl⟩) r1 r2
                refine ⟨_, ?_, turn (l.modify (0 + j) fun e => { e with key := k', val := v' }) clock _ ?_ ?_⟩
                · simp only [Instr.mapUpdate, Sem.run_bind, run_underlying hu, Result.andThen, MapKept.run_getObj_map e3, MapKept.run_checkKey hd hkey, hfk, hg, Option.map_some, Option.getD_some, g3, hsame, MapKept.run_setObj_map _ e3]
                · rw [Array.toList_modify]; exact q1
                · rw [Array.toList_modify]; exact q2
            · cases h
          · cases h
        · cases h
      · cases h
    · cases h
  · cases h
end
end Vx
