/-
  Fields, elements, slicing, make.
-/
import Derived.Test.YtmgejgbomglegaaGreatDoorVx5
namespace Vx
open Go
section
variable {P : Program} {G : Gd} {μ : Mu} {ρ : Nat → Int} {H : Heap} {w : World}

/-! ### Fields -/
noncomputable def fieldAtA (P : Program) (s : TypeId) (x : AV) (f : Nat) : Option AV :=
  match x with
  | .ptr k o => match P.underlying s with
    | some (.struct fields) => match nth fields.toList f with
      | some fd => match P.info? fd.type with
        | some i => match Nat.ble 1 i.size with
          | true => some (.ptr k (Nat.add o fd.offset))
          | false => none
        | none => none
      | none => none
    | _ => none
  | _ => none
theorem fieldAt_ok (hG : GR G μ ρ H w) {s : TypeId} {x : AV} {x' : Value} (hx : VR μ ρ x x') {f : Nat} {v : AV} (h : fieldAtA P s x f = some v) : ValOK P G μ ρ (Instr.fieldAt s x' f) w v H := by
  unfold fieldAtA at h
  split at h
  · rename_i k o
    cases hx with
    | @ptr _ _ b n hb =>
    split at h
    · rename_i fields hu
      split at h
      · rename_i fd hf
        split at h
        · rename_i i hi
          split at h
          · rename_i h1
            cases h
            have h1 := Nat.le_of_ble_eq_true h1
            rw [nth_eq] at hf
            have hf' : fields[f]? = some fd := by simpa using hf
            refine ValOK.pure hG (v' := .pointer (some ⟨b, o + fd.offset, none⟩)) ?_ (.ptr hb)
            unfold Instr.fieldAt
            rw [Sem.run_bind, run_und hu]
            simp only [Result.andThen_ok, hf']
            simp only [Instr.sureAddr, Sem.run_bind, Sem.run_pure, Result.andThen_ok, fieldPlace, run_size hi]
            rw [if_neg (by omega)]
            simp [addr_add]
          · cases h
        · cases h
      · cases h
    · cases h
  · cases h
/-- Some cells of a struct or an array. -/
noncomputable def sub (l : List AV) (off n : Nat) : List AV := (l.drop off).take n
noncomputable def partA (P : Program) (t : TypeId) (cs : List AV) (off : Nat) : Option AV :=
  match P.underlying t with
  | some d => match aggD d with
    | true => match P.info? t with
      | some i => some (.agg (sub cs off i.size))
      | none => none
    | false => nth cs off
  | none => none
theorem part_ok (hG : GR G μ ρ H w) {t : TypeId} {cs : List AV} {cs' : Array Value} (hc : VRs μ ρ cs cs'.toList) {off : Nat} {v : AV} (h : partA P t cs off = some v) : ValOK P G μ ρ (part t cs' off) w v H := by
  unfold partA at h
  split at h
  · rename_i d hu
    split at h
    · rename_i ha
      split at h
      · rename_i i hi
        cases h
        refine ValOK.pure hG (v' := .agg (cs'.extract off (off + i.size))) ?_ ?_
        · simp only [part, Sem.run_bind, run_isAgg hu, ha, Result.andThen_ok, if_true, run_size hi, Sem.run_pure]
        · have := VR.agg ((hc.drop off).take i.size)
          have e : ((cs'.toList.drop off).take i.size).toArray = cs'.extract off (off + i.size) := by
            apply Array.toList_inj.1
            simp [Array.toList_extract]
          rw [e] at this
          exact this
      · cases h
    · rename_i ha
      rw [nth_eq] at h
      obtain ⟨v', h1, h2⟩ := hc.get h
      have h1' : cs'[off]? = some v' := by simpa using h1
      refine ValOK.pure hG (v' := v') ?_ h2
      simp only [part, Sem.run_bind, run_isAgg hu, ha, Result.andThen_ok, Bool.false_eq_true, if_false, h1', Sem.run_pure]
  · cases h
noncomputable def fieldA (P : Program) (t : TypeId) (x : AV) (f : Nat) : Option AV :=
  match x with
  | .agg cs => match P.underlying t with
    | some (.struct fields) => match nth fields.toList f with
      | some fd => partA P fd.type cs fd.offset
      | none => none
    | _ => none
  | _ => none
theorem field_ok (hG : GR G μ ρ H w) {t : TypeId} {x : AV} {x' : Value} (hx : VR μ ρ x x') {f : Nat} {v : AV} (h : fieldA P t x f = some v) : ValOK P G μ ρ (Instr.field t x' f) w v H := by
  unfold fieldA at h
  split at h
  · rename_i cs
    cases hx with
    | @agg _ l' hc =>
    split at h
    · rename_i fields hu
      split at h
      · rename_i fd hf
        rw [nth_eq] at hf
        have hf' : fields[f]? = some fd := by simpa using hf
        obtain ⟨v', w', μ', h1, h2⟩ := part_ok hG (cs' := l'.toArray) (by simpa using hc) h
        refine ⟨v', w', μ', ?_, h2⟩
        unfold Instr.field
        rw [Sem.run_bind, run_und hu]
        simp only [Result.andThen_ok, hf', asAgg, Sem.run_bind, Sem.run_pure]
        exact h1
      · cases h
    · cases h
  · cases h

/-! ### Tuples -/
noncomputable def extractA (x : AV) (i : Nat) : Option AV :=
  match x with
  | .tup l => nth l i
  | _ => none
theorem extract_ok (hG : GR G μ ρ H w) {x : AV} {x' : Value} (hx : VR μ ρ x x') {i : Nat} {v : AV} (h : extractA x i = some v) : ValOK P G μ ρ (Instr.extract x' i) w v H := by
  unfold extractA at h
  split at h
  · rename_i l
    cases hx with
    | @tup _ l' hl =>
    rw [nth_eq] at h
    obtain ⟨v', h1, h2⟩ := hl.get h
    refine ValOK.pure hG (v' := v') ?_ h2
    have h1' : l'.toArray[i]? = some v' := by simpa using h1
    simp only [Instr.extract, h1', Sem.run_pure]
  · cases h

/-! ### Elements -/
/-- A whole number that is known and not negative. -/
noncomputable def natOf (x : AV) : Option Nat :=
  match x with
  | .int _ (.lit (.ofNat n)) => some n
  | _ => none
theorem natOf_ok {x : AV} {x' : Value} (hx : VR μ ρ x x') {n : Nat} (h : natOf x = some n) : ∃ k, x' = .int k (n : Int) := by
  unfold natOf at h
  split at h
  · cases h
    cases hx with
    | int he => simp only [SE.val] at he; subst he; exact ⟨_, rfl⟩
  · cases h
noncomputable def indexAtA (P : Program) (t : TypeId) (x ix : AV) : Option AV :=
  match natOf ix with
  | some i => match x with
    | .sl k o len _ _ => match P.underlying t with
      | some (.slice e) => match Nat.ble (Nat.succ i) len with
        | true => match P.info? e with
          | some ie => some (.ptr k (Nat.add o (Nat.mul i ie.size)))
          | none => none
        | false => none
      | _ => none
    | .ptr k o => match P.underlying t with
      | some (.array len e) => match Nat.ble (Nat.succ i) len with
        | true => match P.info? e with
          | some ie => some (.ptr k (Nat.add o (Nat.mul i ie.size)))
          | none => none
        | false => none
      | _ => none
    | _ => none
  | none => none
theorem indexAt_ok (hG : GR G μ ρ H w) {t : TypeId} {x ix : AV} {x' ix' : Value} (hx : VR μ ρ x x') (hix : VR μ ρ ix ix') {v : AV} (h : indexAtA P t x ix = some v) : ValOK P G μ ρ (Instr.indexAt t x' ix') w v H := by
  unfold indexAtA at h
  split at h
  · rename_i i hi
    obtain ⟨k0, rfl⟩ := natOf_ok hix hi
    split at h
    · rename_i k o len cap esz
      cases hx with
      | @sl _ _ _ _ _ b n cap' hb h1 h2 h3 =>
      split at h
      · rename_i e hu
        split at h
        · rename_i hlt
          have hlt := Nat.le_of_ble_eq_true hlt
          split at h
          · rename_i ie hie
            cases h
            refine ValOK.pure hG (v' := .pointer (some ⟨b, o + i * ie.size, none⟩)) ?_ (.ptr hb)
            unfold Instr.indexAt
            simp only [asIntOf, Sem.run_bind, Sem.run_pure, Result.andThen_ok, run_und hu]
            rw [if_pos (by omega)]
            simp [run_size hie, addr_add]
          · cases h
        · cases h
      · cases h
    · rename_i k o
      cases hx with
      | @ptr _ _ b n hb =>
      split at h
      · rename_i len e hu
        split at h
        · rename_i hlt
          have hlt := Nat.le_of_ble_eq_true hlt
          split at h
          · rename_i ie hie
            cases h
            refine ValOK.pure hG (v' := .pointer (some ⟨b, o + i * ie.size, none⟩)) ?_ (.ptr hb)
            unfold Instr.indexAt
            simp only [asIntOf, Instr.sureAddr, Sem.run_bind, Sem.run_pure, Result.andThen_ok, run_und hu]
            rw [if_pos (by omega)]
            simp [run_size hie, addr_add]
          · cases h
        · cases h
      · cases h
    · cases h
  · cases h
noncomputable def indexA (P : Program) (t : TypeId) (x ix : AV) : Option AV :=
  match natOf ix with
  | some i => match x with
    | .agg cs => match P.underlying t with
      | some (.array len e) => match Nat.ble (Nat.succ i) len with
        | true => match P.info? e with
          | some ie => partA P e cs (Nat.mul i ie.size)
          | none => none
        | false => none
      | _ => none
    | .str s => match P.underlying t with
      | some .string => match nth s.data.toList i with
        | some b => some (.int .u8 (.lit (Int.ofNat b.toNat)))
        | none => none
      | _ => none
    | _ => none
  | none => none
theorem index_ok (hG : GR G μ ρ H w) {t : TypeId} {x ix : AV} {x' ix' : Value} (hx : VR μ ρ x x') (hix : VR μ ρ ix ix') {v : AV} (h : indexA P t x ix = some v) : ValOK P G μ ρ (Instr.index t x' ix') w v H := by
  unfold indexA at h
  split at h
  · rename_i i hi
    obtain ⟨k0, rfl⟩ := natOf_ok hix hi
    split at h
    · rename_i cs
      cases hx with
      | @agg _ l' hc =>
      split at h
      · rename_i len e hu
        split at h
        · rename_i hlt
          have hlt := Nat.le_of_ble_eq_true hlt
          split at h
          · rename_i ie hie
            obtain ⟨v', w', μ', h1, h2⟩ := part_ok hG (cs' := l'.toArray) (by simpa using hc) h
            refine ⟨v', w', μ', ?_, h2⟩
            unfold Instr.index
            simp only [asIntOf, Sem.run_bind, Sem.run_pure, Result.andThen_ok, run_und hu]
            rw [if_pos (by omega)]
            simp only [Sem.run_bind, run_size hie, Result.andThen_ok]
            exact h1
          · cases h
        · cases h
      · cases h
    · rename_i s
      cases hx with
      | str =>
      split at h
      · rename_i hu
        split at h
        · rename_i b hb
          cases h
          rw [nth_eq] at hb
          refine ValOK.pure hG (v' := .int .u8 (b.toNat : Int)) ?_ (.int rfl)
          have hb' : s[i]? = some b := by
            have hlt : i < s.data.toList.length := (List.getElem?_eq_some_iff.1 hb).1
            have e1 : s.data.toList.length = s.size := by rw [Array.length_toList]; rfl
            have hlt' : i < s.size := by omega
            rw [getElem?_pos s i hlt']
            rw [List.getElem?_eq_getElem hlt] at hb
            rw [← hb]; rfl
          unfold Instr.index
          simp only [asIntOf, Sem.run_bind, Sem.run_pure, Result.andThen_ok, run_und hu]
          rw [if_pos (by omega)]
          simp [hb']
        · cases h
      · cases h
    · cases h
  · cases h
end
end Vx
