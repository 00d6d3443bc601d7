/-
  Strings' lengths, bytes, parts; structs and pointers that are alike; conversions; what a builder of strings asks for; functions without a body.
-/
import Derived.Test.YtmgejgbomglegaaGreatDoorVxT
namespace Vx
open Go
section
variable {P : Program} {G : Gd} {μ : Mu} {ρ : Nat → Int} {H : Heap} {w : World}

theorem ValOK.turn {s : Sem Value} {u v : AV} (h : ValOK P G μ ρ s w u H) (hv : ∀ μ' v', VR μ' ρ u v' → VR μ' ρ v v') : ValOK P G μ ρ s w v H := by
  obtain ⟨v', w', μ', h1, h2, h3, h4⟩ := h
  exact ⟨v', w', μ', h1, h2, hv _ _ h3, h4⟩
noncomputable def lenX (P : Program) (t : TypeId) (x : AV) : Option AV :=
  match x with
  | .sle _ _ => match P.underlying t with
    | some (.slice _) => some (.int .i64 (.lit (Int.ofNat 0)))
    | _ => none
  | .ustr l => match P.underlying t with
    | some .string => some (.int .i64 (.lit (Int.ofNat l.length)))
    | _ => none
  | x => lenA P t x
theorem lenX_ok (hG : GR G μ ρ H w) {ats : Array TypeId} {ty t : TypeId} (ht : ats[0]? = some t) {x : AV} {x' : Value} (hx : VR μ ρ x x') {v : AV} (h : lenX P t x = some v) : ValOK P G μ ρ (Builtin.len_ ats ty #[x']) w v H := by
  unfold lenX at h
  split at h
  · split at h
    · rename_i e hu
      cases h; cases hx
      exact ValOK.pure hG (by simp [Builtin.len_, ht, run_underlying hu]; rfl) (.int rfl)
    · cases h
  · split at h
    · rename_i hu
      cases h
      cases hx with
      | @ustr l s hs =>
      have e := SV.len hs
      rw [e]
      exact len_ok hG ht (x := .str s) .str (by simp [lenA, hu])
    · cases h
  · exact len_ok hG ht hx h
noncomputable def indexX (P : Program) (t : TypeId) (x ix : AV) : Option AV :=
  match x with
  | .ustr l => match natOf ix with
    | some i => match P.underlying t with
      | some .string => match nth l i with
        | some e => some (.int .u8 e)
        | none => none
      | _ => none
    | none => none
  | x => indexA P t x ix
theorem indexX_ok (hG : GR G μ ρ H w) {t : TypeId} {x ix : AV} {x' ix' : Value} (hx : VR μ ρ x x') (hix : VR μ ρ ix ix') {v : AV} (h : indexX P t x ix = some v) : ValOK P G μ ρ (Instr.index t x' ix') w v H := by
  unfold indexX at h
  split at h
  · rename_i ls
    split at h
    · rename_i i hi
      split at h
      · rename_i hu
        split at h
        · rename_i e he
          cases h
          cases hx with
          | @ustr l s hs =>
          rw [nth_eq] at he
          have h1 : (ls.map (SE.val ρ))[i]? = some (e.val ρ) := by simp [he]
          rw [hs] at h1
          obtain ⟨b, hb, hbe⟩ : ∃ b, s.data.toList[i]? = some b ∧ (b.toNat : Int) = e.val ρ := by
            rw [List.getElem?_map] at h1
            cases hb : s.data.toList[i]? with
            | none => rw [hb] at h1; cases h1
            | some b => rw [hb] at h1; exact ⟨b, rfl, by simpa using h1⟩
          refine ValOK.turn (index_ok hG (x := .str s) .str hix (v := .int .u8 (.lit (Int.ofNat b.toNat))) ?_) fun μ' v' hv => ?_
          · unfold indexA; simp only [hi, hu, nth_eq, hb]
          · cases hv with
            | int h2 => exact .int (hbe.symm.trans h2)
        · cases h
      · cases h
    · cases h
  · exact index_ok hG hx hix h
noncomputable def sliceX (P : Program) (H : Heap) (t : TypeId) (x : AV) (lo hi : Option AV) : Option AV :=
  match x with
  | .ustr s => match boundA 0 lo with
    | none => none
    | some l => match boundA s.length hi with
      | none => none
      | some h => match Nat.ble l h with
        | false => none
        | true => match Nat.ble h s.length with
          | false => none
          | true => match P.underlying t with
            | some .string => some (.ustr ((s.drop l).take (Nat.sub h l)))
            | _ => none
  | x => sliceA P H t x lo hi
theorem sliceX_ok (hG : GR G μ ρ H w) {t : TypeId} {x : AV} {x' : Value} (hx : VR μ ρ x x') {lo hi : Option AV} {lo' hi' : Option Value} (hlo : ORel μ ρ lo lo') (hhi : ORel μ ρ hi hi') {v : AV} (hv : sliceX P H t x lo hi = some v) :
    ValOK P G μ ρ (Instr.sliceAt t x' lo' hi' none) w v H := by
  unfold sliceX at hv
  split at hv
  · split at hv
    · cases hv
    · rename_i l hl
      split at hv
      · cases hv
      · rename_i h hh
        split at hv
        · cases hv
        · rename_i b1
          split at hv
          · cases hv
          · rename_i b2
            split at hv
            · rename_i hu
              cases hv
              cases hx with
              | @ustr l0 s hs =>
              have e := SV.len hs
              rw [e] at hh b2
              refine ValOK.turn (slice_ok hG (x := .str s) .str hlo hhi (v := .str (s.extract l h)) ?_) fun μ' v' hv => ?_
              · unfold sliceA; simp only [hl, hh, b1, b2, hu]
              · cases hv
                exact .ustr (SV.extract hs l h)
            · cases hv
  · exact slice_ok hG hx hlo hhi hv

/-- x[0:0:0]. -/
noncomputable def isZ0 (x : Option AV) : Bool :=
  match x with
  | some y => match natOf y with
    | some n => Nat.beq n 0
    | none => false
  | none => false
noncomputable def sliceN (P : Program) (t : TypeId) (x : AV) (lo hi mx : Option AV) : Option AV :=
  match isZ0 lo with
  | false => none
  | true => match isZ0 hi with
    | false => none
    | true => match isZ0 mx with
      | false => none
      | true => match P.underlying t with
        | some (.slice e) => match P.info? e with
          | some _ => match x with
            | .nils => some .nils
            | .sl k o _ _ _ => some (.sle k o)
            | .sle k o => some (.sle k o)
            | _ => none
          | none => none
        | _ => none
theorem isZ0_ok {x : Option AV} {x' : Option Value} (hx : ORel μ ρ x x') (h : isZ0 x = true) : ∃ k, x' = some (.int k 0) := by
  unfold isZ0 at h
  split at h
  · split at h
    · rename_i n hn
      have h := Nat.eq_of_beq_eq_true h
      subst h
      cases hx with
      | some hv =>
      obtain ⟨k, rfl⟩ := natOf_ok hv hn
      exact ⟨k, rfl⟩
    · cases h
  · cases h
theorem sliceN_ok (hG : GR G μ ρ H w) {t : TypeId} {x : AV} {x' : Value} (hx : VR μ ρ x x') {lo hi mx : Option AV} {lo' hi' mx' : Option Value} (hlo : ORel μ ρ lo lo') (hhi : ORel μ ρ hi hi') (hmx : ORel μ ρ mx mx') {v : AV} (hv : sliceN P t x lo hi mx = some v) :
    ValOK P G μ ρ (Instr.sliceAt t x' lo' hi' mx') w v H := by
  unfold sliceN at hv
  split at hv
  · cases hv
  · rename_i h1
    split at hv
    · cases hv
    · rename_i h2
      split at hv
      · cases hv
      · rename_i h3
        obtain ⟨k1, rfl⟩ := isZ0_ok hlo h1
        obtain ⟨k2, rfl⟩ := isZ0_ok hhi h2
        obtain ⟨k3, rfl⟩ := isZ0_ok hmx h3
        split at hv
        · rename_i e hu
          split at hv
          · rename_i ie hie
            have key : ∀ (a : Option Addr) (n c : Nat), (Instr.sliceAt t (.slice a n c) (some (.int k1 0)) (some (.int k2 0)) (some (.int k3 0))).run P w = .ok (.slice a 0 0) w := fun a n c => by
              simp [Instr.sliceAt, Instr.slice, run_underlying hu, Instr.sliceBounds, Instr.sliceBound, asIntOf, Go.sizeOf, typeInfo, hie]
            split at hv
            · cases hv; cases hx
              exact ValOK.pure hG (key _ _ _) .nils
            · cases hv
              cases hx with
              | sl hb _ _ _ => exact ValOK.pure hG (key _ _ _) (.sle hb)
            · cases hv
              cases hx with
              | sle hb => exact ValOK.pure hG (key _ _ _) (.sle hb)
            · cases hv
          · cases hv
        · cases hv

/-! ### Likeness -/
noncomputable def eqV (P : Program) (D : Dec) (t : TypeId) (a b : AV) : Option Bool :=
  match a with
  | .int k x => match b with
    | .int k' y => match P.underlying t with
      | some (.int _) => match kindB k k' with
        | true => cmpA D .eql x y
        | false => none
      | _ => none
    | _ => none
  | a => eqA P t a b
/-- Two whole numbers of one kind. -/
noncomputable def intPair (P : Program) (t : TypeId) (a b : AV) : Bool :=
  match a with
  | .int k _ => match b with
    | .int k' _ => match P.underlying t with
      | some (.int _) => kindB k k'
      | _ => false
    | _ => false
  | _ => false
theorem litI_ok {e : SE} {n : Int} (h : litI e = some n) : e.val ρ = n := by
  unfold litI at h
  split at h
  · cases h; rfl
  · cases h
theorem eqV_ok {D : Dec} (hD : D.OK P ρ) (d : Nat) {t : TypeId} {a b : AV} {a' b' : Value} (ha : VR μ ρ a a') (hb : VR μ ρ b b') {r : Bool} (h : eqV P D t a b = some r) : (Op.equalIn (d + 1) t a' b').run P w = .ok r w := by
  unfold eqV at h
  split at h
  · split at h
    · split at h
      · rename_i hu
        split at h
        · rename_i hk
          have hk := kindB_eq hk
          subst hk
          cases ha with
          | int e1 => cases hb with
            | int e2 =>
            subst e1; subst e2
            rw [run_equalIn_int w d t _ _ _ _ hu]
            have hc := cmp_ok (P := P) (w := w) hD h
            have hc : (Result.ok (Value.bool (_ == _)) w : Result Value) = .ok (.bool r) w := hc
            injection hc with h1 h2
            injection h1 with h1
            rw [h1]
        · cases h
      · cases h
    · cases h
  · exact eqIn_ok d ha hb h
theorem intPair_ok (d : Nat) {t : TypeId} {a b : AV} {a' b' : Value} (ha : VR μ ρ a a') (hb : VR μ ρ b b') (h : intPair P t a b = true) : ∃ r, (Op.equalIn (d + 1) t a' b').run P w = .ok r w := by
  unfold intPair at h
  split at h
  · split at h
    · split at h
      · rename_i hu
        have hk := kindB_eq h
        subst hk
        cases ha; cases hb
        exact ⟨_, run_equalIn_int w d t _ _ _ _ hu⟩
      · cases h
    · cases h
  · cases h
theorem part_run {t : TypeId} {cs : List AV} {cs' : Array Value} (hc : VRs μ ρ cs cs'.toList) {off : Nat} {v : AV} (h : partA P t cs off = some v) : ∃ v', (part t cs' off).run P w = .ok v' w ∧ VR μ ρ v v' := by
  unfold partA at h
  split at h
  · rename_i d hu
    split at h
    · rename_i ha
      split at h
      · rename_i i hi
        cases h
        refine ⟨.agg (cs'.extract off (off + i.size)), ?_, ?_⟩
        · simp only [part, Sem.run_bind, run_isAgg hu, ha, Result.andThen_ok, if_true, run_size hi, Sem.run_pure]
        · have := VR.agg ((hc.drop off).take i.size)
          have e : ((cs'.toList.drop off).take i.size).toArray = cs'.extract off (off + i.size) := by
            apply Array.toList_inj.1
            simp [Array.toList_extract]
          rw [e] at this
          exact this
      · cases h
    · rename_i ha
      rw [nth_eq] at h
      obtain ⟨v', h1, h2⟩ := hc.get h
      have h1' : cs'[off]? = some v' := by simpa using h1
      refine ⟨v', ?_, h2⟩
      simp only [part, Sem.run_bind, run_isAgg hu, ha, Result.andThen_ok, Bool.false_eq_true, if_false, h1', Sem.run_pure]
  · cases h
noncomputable def eqFieldsA (P : Program) (D : Dec) (l r : List AV) : List Field → Option Bool
  | [] => some true
  | f :: fs => match f.name == "_" with
    | true => eqFieldsA P D l r fs
    | false => match partA P f.type l f.offset with
      | some a => match partA P f.type r f.offset with
        | some b => match eqV P D f.type a b with
          | some true => eqFieldsA P D l r fs
          | some false => some false
          | none => match intPair P f.type a b with
            | true => match eqFieldsA P D l r fs with
              | some false => some false
              | _ => none
            | false => none
        | none => none
      | none => none
theorem eqFieldsA_ok {D : Dec} (hD : D.OK P ρ) (d : Nat) {l r : List AV} {l' r' : Array Value} (hl : VRs μ ρ l l'.toList) (hr : VRs μ ρ r r'.toList) : ∀ {fs : List Field} {b : Bool}, eqFieldsA P D l r fs = some b → (Op.eqFields (d + 1) l' r' fs).run P w = .ok b w
  | [], b, h => by
    simp only [eqFieldsA, Option.some.injEq] at h
    subst h; rfl
  | f :: fs, b, h => by
    simp only [eqFieldsA] at h
    split at h
    · rename_i hn
      have hn : f.name = "_" := by simpa using hn
      simp only [Op.eqFields]
      rw [if_neg (by simp [hn])]
      exact eqFieldsA_ok hD d hl hr h
    · rename_i hn
      have hn : ¬ f.name = "_" := by simpa using hn
      split at h
      · rename_i a ha
        split at h
        · rename_i c hc
          obtain ⟨a', ra, va⟩ := part_run (P := P) (w := w) hl ha
          obtain ⟨c', rc, vc⟩ := part_run (P := P) (w := w) hr hc
          simp only [Op.eqFields]
          rw [if_pos hn]
          split at h
          · rename_i he
            have := eqV_ok (P := P) (w := w) hD d va vc he
            simp [ra, rc, this, eqFieldsA_ok hD d hl hr h]
          · rename_i he
            cases h
            have := eqV_ok (P := P) (w := w) hD d va vc he
            simp [ra, rc, this]
          · split at h
            · rename_i hip
              split at h
              · rename_i hf
                cases h
                obtain ⟨q, hq⟩ := intPair_ok (P := P) (w := w) d va vc hip
                have hrest := eqFieldsA_ok hD d hl hr hf
                cases q <;> simp [ra, rc, hq, hrest]
              · cases h
            · cases h
        · cases h
      · cases h
noncomputable def eqSt (P : Program) (D : Dec) (t : TypeId) (l r : List AV) : Option Bool :=
  match P.underlying t with
  | some (.struct _) => match P.stoodInHeld t with
    | false => match P.eqGuardType P.depth t with
      | false => eqFieldsA P D l r (P.fieldsOf t).toList
      | true => none
    | true => none
  | _ => none
theorem fieldsOf_eq {t : TypeId} {fs : Array Field} (h : P.underlying t = some (.struct fs)) : P.fieldsOf t = fs := by
  simp [Program.fieldsOf, h]
noncomputable def eqPt (P : Program) (t : TypeId) (k o k' o' : Nat) : Option Bool :=
  match P.underlying t with
  | some (.pointer e) => match P.info? e with
    | some i => match Nat.beq i.size 0 with
      | false => match Nat.beq k k' with
        | true => some (Nat.beq o o')
        | false => none
      | true => none
    | none => none
  | _ => none
noncomputable def boolOp (op : BinOp) (r : Option Bool) : Option AV :=
  match op with
  | .eql => match r with
    | some b => some (.bool b)
    | none => none
  | .neq => match r with
    | some b => some (.bool (not b))
    | none => none
  | _ => none
noncomputable def binX (P : Program) (D : Dec) (op : BinOp) (t : TypeId) (a b : AV) : Option AV :=
  match strL a with
  | some l => match strL b with
    | some r => strBin op l r
    | none => none
  | none => match a with
    | .agg l => match b with
      | .agg r => boolOp op (eqSt P D t l r)
      | _ => none
    | .ptr k o => match b with
      | .ptr k' o' => boolOp op (eqPt P t k o k' o')
      | b => binA P D op t (.ptr k o) b
    | a => binA P D op t a b
theorem binX_ok (hG : GR G μ ρ H w) {D : Dec} (hD : D.OK P ρ) {op : BinOp} {t : TypeId} {x y : Operand} {a b : AV} {a' b' : Value} (ha : VR μ ρ a a') (hb : VR μ ρ b b') {v : AV} (h : binX P D op t a b = some v) :
    ∃ v', (eqGuard op t x y a' b').run P w = .ok () w ∧ (binOp op t a' b').run P w = .ok v' w ∧ VR μ ρ v v' := by
  unfold binX at h
  split at h
  · rename_i l hl
    split at h
    · rename_i r hr
      obtain ⟨s, rfl, h1⟩ := strL_ok ha hl
      obtain ⟨u, rfl, h2⟩ := strL_ok hb hr
      obtain ⟨v', h3, h4⟩ := strBin_ok (P := P) (w := w) (μ := μ) h1 h2 h
      refine ⟨v', ?_, ?_, h4⟩
      · cases op <;> rfl
      · have : binOp op t (.string s) (.string u) = Op.stringOp op s u := by
          unfold strBin at h
          cases op <;> first | rfl | (cases h)
        rw [this]; exact h3
    · cases h
  · split at h
    · rename_i l hn
      split at h
      · rename_i r
        cases ha with
        | @agg _ l' hl =>
        cases hb with
        | @agg _ r' hr =>
        unfold boolOp at h
        have key : ∀ b, eqSt P D t l r = some b → P.eqGuardType P.depth t = false ∧ (Op.equalIn 10000 t (.agg l'.toArray) (.agg r'.toArray)).run P w = .ok b w := fun b hb => by
          unfold eqSt at hb
          split at hb
          · rename_i fs hu
            split at hb
            · rename_i hp
              split at hb
              · rename_i hg
                refine ⟨hg, ?_⟩
                rw [run_equalIn_struct w 9999 t _ _ (by rw [fieldsOf_eq hu]; exact hu) hp]
                exact eqFieldsA_ok hD 9998 (by simpa using hl) (by simpa using hr) hb
              · cases hb
            · cases hb
          · cases hb
        split at h
        · split at h
          · rename_i b hb
            cases h
            obtain ⟨k1, k2⟩ := key b hb
            refine ⟨.bool b, run_eqGuard_agg w _ t x y _ _ k1, ?_, .bool⟩
            rw [run_eql_struct, k2]; rfl
          · cases h
        · split at h
          · rename_i b hb
            cases h
            obtain ⟨k1, k2⟩ := key b hb
            refine ⟨.bool (!b), run_eqGuard_agg w _ t x y _ _ k1, ?_, .bool⟩
            rw [run_neq_struct, k2]; rfl
          · cases h
        · cases h
      · cases h
    · rename_i k o hn
      split at h
      · rename_i k' o'
        cases ha with
        | @ptr _ _ bk nk hk =>
        cases hb with
        | @ptr _ _ bk' nk' hk' =>
        have key : ∀ b, eqPt P t k o k' o' = some b → (Op.equal t (.pointer (some ⟨bk, o, none⟩)) (.pointer (some ⟨bk', o', none⟩))).run P w = .ok b w := fun b hb => by
          unfold eqPt at hb
          split at hb
          · rename_i e hu
            split at hb
            · rename_i i hi
              split at hb
              · rename_i hz
                split at hb
                · rename_i hkk
                  have hkk := Nat.eq_of_beq_eq_true hkk
                  subst hkk
                  rw [hk] at hk'; cases hk'
                  cases hb
                  have hz' : ¬ i.size = 0 := fun e => by rw [e] at hz; cases hz
                  have : ∀ d, (Op.equalIn (d + 1) t (.pointer (some ⟨bk, o, none⟩)) (.pointer (some ⟨bk, o', none⟩))).run P w = .ok (Nat.beq o o') w := fun d => by
                    simp [Op.equalIn, run_underlying hu, Go.sizeOf, typeInfo, hi, hz', sameAddr]
                    cases hb : Nat.beq o o' with
                    | true => have := Nat.eq_of_beq_eq_true hb; subst this; simp
                    | false =>
                      have : ¬ o = o' := fun e => by subst e; simp at hb
                      simp
                  exact this 9999
                · cases hb
              · cases hb
            · cases hb
          · cases hb
        unfold boolOp at h
        split at h
        · split at h
          · rename_i b hb
            cases h
            exact ⟨.bool b, rfl, by simp [binOp, key b hb], .bool⟩
          · cases h
        · split at h
          · rename_i b hb
            cases h
            exact ⟨.bool (!b), rfl, by simp [binOp, key b hb], .bool⟩
          · cases h
        · cases h
      · obtain ⟨v', h1, h2⟩ := bin_ok (P := P) hG hD ha hb h
        exact ⟨v', eqGuard_ok ha hb h, h1, h2⟩
    · obtain ⟨v', h1, h2⟩ := bin_ok (P := P) hG hD ha hb h
      exact ⟨v', eqGuard_ok ha hb h, h1, h2⟩
end
end Vx
