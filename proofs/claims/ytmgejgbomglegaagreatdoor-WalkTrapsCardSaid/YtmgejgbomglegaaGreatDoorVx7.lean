/-
  Slicing, make, append, copy, len.
-/
import Derived.Test.YtmgejgbomglegaaGreatDoorVx6
import Derived.Laws.Append
import Derived.Laws.AppendOwn
import Derived.Laws.MakeOwn
import Derived.Laws.CopyRow
namespace Vx
open Go
section
variable {P : Program} {G : Gd} {μ : Mu} {ρ : Nat → Int} {H : Heap} {w : World}

/-! ### Slicing -/
/-- An operand that may be missing. -/
inductive ORel (μ : Mu) (ρ : Nat → Int) : Option AV → Option Value → Prop
  | none : ORel μ ρ none none
  | some {v : AV} {v' : Value} (h : VR μ ρ v v') : ORel μ ρ (some v) (some v')
noncomputable def boundA (d : Nat) (x : Option AV) : Option Nat :=
  match x with
  | none => some d
  | some v => natOf v
theorem bounds_ok (isSlice : Bool) (len cap : Nat) {lo hi : Option AV} {lo' hi' : Option Value} (hlo : ORel μ ρ lo lo') (hhi : ORel μ ρ hi hi') {l h : Nat} (h1 : boundA 0 lo = some l) (h2 : boundA len hi = some h) (hlh : l ≤ h) (hh : h ≤ cap) (w : World) :
    (Instr.sliceBounds isSlice len cap lo' hi' none).run P w = .ok (l, h, cap) w := by
  have hb : ∀ (k : IntKind) (x y : Nat) (c : BoundsCode), x ≤ y → (Instr.sliceBound (.int k (x : Int)) y c).run P w = .ok x w := fun k x y c hxy => by
    simp only [Instr.sliceBound, asIntOf, Sem.run_bind, Sem.run_pure, Result.andThen_ok]
    rw [if_pos (by omega)]; simp
  cases hlo with
  | none =>
    simp only [boundA, Option.some.injEq] at h1; subst h1
    cases hhi with
    | none =>
      simp only [boundA, Option.some.injEq] at h2; subst h2
      simp [Instr.sliceBounds]
    | some hv =>
      obtain ⟨k, rfl⟩ := natOf_ok hv h2
      simp [Instr.sliceBounds, hb _ _ _ _ hh]
  | some hv1 =>
    obtain ⟨k1, rfl⟩ := natOf_ok hv1 h1
    cases hhi with
    | none =>
      simp only [boundA, Option.some.injEq] at h2; subst h2
      simp [Instr.sliceBounds, hb _ _ _ _ hlh]
    | some hv =>
      obtain ⟨k, rfl⟩ := natOf_ok hv h2
      simp [Instr.sliceBounds, hb _ _ _ _ hh, hb _ _ _ _ hlh]
noncomputable def isZ (n : Nat) : Bool := Nat.beq n 0
noncomputable def sliceA (P : Program) (H : Heap) (t : TypeId) (x : AV) (lo hi : Option AV) : Option AV :=
  match boundA 0 lo with
  | none => none
  | some l => match x with
    | .sl k o len cap esz => match boundA len hi with
      | none => none
      | some h => match Nat.ble l h with
        | false => none
        | true => match Nat.ble h cap with
          | false => none
          | true => match (or (Nat.beq l 0) (Nat.ble (Nat.succ l) cap)) with
            | false => none
            | true => match P.underlying t with
              | some (.slice e) => match P.info? e with
                | some ie => match Nat.beq ie.size esz with
                  | true => some (.sl k (Nat.add o (Nat.mul l esz)) (Nat.sub h l) (Nat.sub cap l) esz)
                  | false => none
                | none => none
              | _ => none
    | .nils => match boundA 0 hi with
      | some 0 => match l with
        | 0 => match P.underlying t with
          | some (.slice e) => match P.info? e with
            | some _ => some .nils
            | none => none
          | _ => none
        | _ => none
      | _ => none
    | .str s => match boundA s.size hi with
      | none => none
      | some h => match Nat.ble l h with
        | false => none
        | true => match Nat.ble h s.size with
          | false => none
          | true => match P.underlying t with
            | some .string => some (.str (s.extract l h))
            | _ => none
    | .ptr k o => match P.underlying t with
      | some (.array n e) => match boundA n hi with
        | none => none
        | some h => match Nat.ble l h with
          | false => none
          | true => match Nat.ble h n with
            | false => none
            | true => match (or (Nat.beq l 0) (Nat.ble (Nat.succ l) n)) with
              | false => none
              | true => match P.info? e with
                | some ie => match H.tr.get k with
                  | some (.cells _ _ m _) => match Nat.ble (Nat.add o (Nat.mul n ie.size)) m with
                    | true => some (.sl k (Nat.add o (Nat.mul l ie.size)) (Nat.sub h l) (Nat.sub n l) ie.size)
                    | false => none
                  | _ => none
                | none => none
      | _ => none
    | _ => none
theorem addr_off (b o c l size : Nat) (h : l = 0 ∨ l < c) : (if c = l then (⟨b, o, none⟩ : Addr) else (⟨b, o, none⟩ : Addr).add (l * size)) = ⟨b, o + l * size, none⟩ := by
  by_cases e : c = l
  · rw [if_pos e]
    have : l = 0 := by omega
    subst this; simp
  · rw [if_neg e, addr_add]
theorem slice_ok (hG : GR G μ ρ H w) {t : TypeId} {x : AV} {x' : Value} (hx : VR μ ρ x x') {lo hi : Option AV} {lo' hi' : Option Value} (hlo : ORel μ ρ lo lo') (hhi : ORel μ ρ hi hi') {v : AV} (hv : sliceA P H t x lo hi = some v) :
    ValOK P G μ ρ (Instr.sliceAt t x' lo' hi' none) w v H := by
  unfold sliceA at hv
  split at hv
  · cases hv
  · rename_i l hl
    split at hv
    · rename_i k o len cap esz
      cases hx with
      | @sl _ _ _ _ _ b n cap' hb c1 c2 c3 =>
      split at hv
      · cases hv
      · rename_i h hh
        split at hv
        · cases hv
        · rename_i b1
          split at hv
          · cases hv
          · rename_i b2
            split at hv
            · cases hv
            · rename_i b3
              split at hv
              · rename_i e hu
                split at hv
                · rename_i ie hie
                  split at hv
                  · rename_i b4
                    cases hv
                    have b1 := Nat.le_of_ble_eq_true b1
                    have b2 := Nat.le_of_ble_eq_true b2
                    have b4 := Nat.eq_of_beq_eq_true b4
                    have b3' : l = 0 ∨ l < cap := by
                      rcases Bool.or_eq_true _ _ ▸ b3 with h | h
                      · exact .inl (Nat.eq_of_beq_eq_true h)
                      · exact .inr (Nat.le_of_ble_eq_true h)
                    have hbs := bounds_ok (P := P) true len cap' hlo hhi hl hh b1 (by omega) w
                    refine ValOK.pure hG (v' := .slice (some ⟨b, o + l * esz, none⟩) (h - l) (cap' - l)) ?_ (.sl hb (by simp only [Nat.sub_eq]; omega) ?_ (by simp only [Nat.sub_eq]; omega))
                    · simp only [Instr.sliceAt, Sem.run_bind, run_und hu, Result.andThen_ok, Instr.slice, hbs, run_size hie, b4, Sem.run_pure]
                      have e1 := addr_off b o cap' l esz (by omega)
                      by_cases ec : cap' = l
                      · rw [if_pos ec] at e1 ⊢; rw [e1]
                      · rw [if_neg ec] at e1 ⊢; simp only [Option.map_some]; rw [e1]
                    · simp only [Nat.add_eq, Nat.mul_eq]
                      have : l * esz + (cap' - l) * esz = cap' * esz := by rw [← Nat.add_mul]; congr 1; omega
                      omega
                  · cases hv
                · cases hv
              · cases hv
    · cases hx
      split at hv
      · rename_i hh
        split at hv
        · split at hv
          · rename_i e hu
            split at hv
            · rename_i ie hie
              cases hv
              have hbs := bounds_ok (P := P) true 0 0 hlo hhi hl hh (Nat.le_refl _) (Nat.le_refl _) w
              refine ValOK.pure hG (v' := .slice none 0 0) ?_ .nils
              simp only [Instr.sliceAt, Sem.run_bind, run_und hu, Result.andThen_ok, Instr.slice, hbs, run_size hie, Sem.run_pure]
              simp
            · cases hv
          · cases hv
        · cases hv
      · cases hv
    · rename_i s
      cases hx
      split at hv
      · cases hv
      · rename_i h hh
        split at hv
        · cases hv
        · rename_i b1
          split at hv
          · cases hv
          · rename_i b2
            split at hv
            · rename_i hu
              cases hv
              have hbs := bounds_ok (P := P) false s.size s.size hlo hhi hl hh (Nat.le_of_ble_eq_true b1) (Nat.le_of_ble_eq_true b2) w
              refine ValOK.pure hG (v' := .string (s.extract l h)) ?_ .str
              simp only [Instr.sliceAt, Sem.run_bind, run_und hu, Result.andThen_ok, Instr.slice, Option.isSome_none, Bool.false_eq_true, if_false, Sem.run_pure, hbs]
            · cases hv
    · rename_i k o
      cases hx with
      | @ptr _ _ b n0 hb =>
      split at hv
      · rename_i n e hu
        split at hv
        · cases hv
        · rename_i h hh
          split at hv
          · cases hv
          · rename_i b1
            split at hv
            · cases hv
            · rename_i b2
              split at hv
              · cases hv
              · rename_i b3
                split at hv
                · rename_i ie hie
                  split at hv
                  · rename_i c d m e0 hk
                    split at hv
                    · rename_i b4
                      cases hv
                      have b1 := Nat.le_of_ble_eq_true b1
                      have b2 := Nat.le_of_ble_eq_true b2
                      have b4 := Nat.le_of_ble_eq_true b4
                      have b3' : l = 0 ∨ l < n := by
                        rcases Bool.or_eq_true _ _ ▸ b3 with h | h
                        · exact .inl (Nat.eq_of_beq_eq_true h)
                        · exact .inr (Nat.le_of_ble_eq_true h)
                      obtain ⟨b5, n5, q1, q2, _⟩ := hG.cell hk
                      rw [hb] at q1; cases q1
                      have hbs := bounds_ok (P := P) false n n hlo hhi hl hh b1 b2 w
                      refine ValOK.pure hG (v' := .slice (some ⟨b, o + l * ie.size, none⟩) (h - l) (n - l)) ?_ (.sl hb (Nat.le_refl _) ?_ (by simp only [Nat.sub_eq]; omega))
                      · simp only [Instr.sliceAt, Sem.run_bind, run_und hu, Result.andThen_ok, Instr.sureAddr, Sem.run_pure, hbs, run_size hie]
                        have e1 := addr_off b o n l ie.size b3'
                        rw [e1]
                      · simp only [Nat.add_eq, Nat.mul_eq] at b4 ⊢
                        have : l * ie.size + (n - l) * ie.size = n * ie.size := by rw [← Nat.add_mul]; congr 1; omega
                        omega
                    · cases hv
                  · cases hv
                · cases hv
      · cases hv
    · cases hv

/-! ### make -/
noncomputable def makeM (P : Program) (t : TypeId) (l c : AV) : Option Mk :=
  match natOf l with
  | some l => match natOf c with
    | some c => match Nat.ble l c with
      | true => match Nat.ble c 1048576 with
        | true => match P.underlying t with
          | some (.slice e) => match P.info? e with
            | some ie => match Nat.ble ie.bytes 1024 with
              | true => match zeroA P e with
                | some z => match Nat.beq z.cells.length ie.size with
                  | true => match z.cells with
                    | [] => none
                    | v :: r => match r with
                      | [] => some (.cells .e v c e, fun id => .sl id 0 l c 1)
                      | _ :: _ => some (blockOf (repA z.cells c) e, fun id => .sl id 0 l c ie.size)
                  | false => none
                | none => none
              | false => none
            | none => none
          | _ => none
        | false => none
      | false => none
    | none => none
  | none => none
theorem made_arr (z : Array Value) (n : Nat) (hz : 0 < z.size) : (madeCells z (n * z.size)).toList = repA z.toList n := by
  unfold madeCells; exact rep_arr z n hz
theorem make_mk {t : TypeId} {l c : AV} {l' c' : Value} (hl : VR μ ρ l l') (hc : VR μ ρ c c') {m : Mk} (h : makeM P t l c = some m) : MkOK P μ ρ (Instr.makeSlice t l' c') w m := by
  unfold makeM at h
  split at h
  · rename_i ln hln
    split at h
    · rename_i cn hcn
      obtain ⟨k1, rfl⟩ := natOf_ok hl hln
      obtain ⟨k2, rfl⟩ := natOf_ok hc hcn
      split at h
      · rename_i b1
        split at h
        · rename_i b2
          split at h
          · rename_i e hu
            split at h
            · rename_i ie hie
              split at h
              · rename_i b3
                cases hz : zeroA P e with
                | none => simp [hz] at h
                | some z =>
                  simp only [hz] at h
                  obtain ⟨i, z', hi, hz', hv⟩ := zeroA_ok (μ := μ) (ρ := ρ) hz
                  rw [hie] at hi; cases hi
                  split at h
                  · rename_i b4
                    have b1 := Nat.le_of_ble_eq_true b1
                    have b2 := Nat.le_of_ble_eq_true b2
                    have b3 := Nat.le_of_ble_eq_true b3
                    have b4 := Nat.eq_of_beq_eq_true b4
                    have hlen := hv.cells.length
                    simp only [Array.length_toList] at hlen
                    have hbytes : (ie.bytes : Int) * (cn : Int) ≤ 281474976710656 := by
                      have : ie.bytes * cn ≤ 1024 * 1048576 := Nat.mul_le_mul b3 b2
                      have h2 : ((ie.bytes * cn : Nat) : Int) ≤ 1073741824 := by omega
                      rw [Int.natCast_mul] at h2; omega
                    have hrun := run_make (P := P) (w := w) t e ie z' hu hie hz' k1 k2 ln cn (by omega) (by omega) hbytes (by omega)
                    simp only [Int.toNat_natCast] at hrun
                    split at h
                    · cases h
                    · rename_i x r hcells
                      have hsz : z'.cells.size = ie.size := by omega
                      have hpos : 0 < z'.cells.size := by rw [hcells] at b4; simp at b4; omega
                      have harr := made_arr z'.cells cn hpos
                      rw [hsz] at harr
                      split at h
                      · cases h
                        rw [hcells] at b4
                        have hs1 : ie.size = 1 := by simpa using b4.symm
                        have hvc := hv.cells
                        rw [hcells] at hvc
                        obtain ⟨y, hy1, hy2⟩ : ∃ y, z'.cells.toList = [y] ∧ VR μ ρ x y := by
                          cases hzc : z'.cells.toList with
                          | nil => rw [hzc] at hvc; cases hvc
                          | cons y r =>
                            rw [hzc] at hvc
                            cases hvc with
                            | cons h1 h2 => cases h2; exact ⟨y, rfl, h1⟩
                        have ho : OR μ ρ (madeCells z'.cells (cn * ie.size)).size (.cells (madeCells z'.cells (cn * ie.size)) e (0, 0)) (.cells .e x cn e) := by
                          have hsize : (madeCells z'.cells (cn * ie.size)).size = cn := by
                            rw [← Array.length_toList, harr, repA_length, hy1]; simp
                          refine ⟨_, rfl, rfl, by omega, fun i hi => ⟨y, ?_, by simpa [cget, Tr.get_e] using hy2⟩⟩
                          rw [← Array.getElem?_toList, harr, repA_get _ (by rw [hy1]; simp) cn i (by rw [hy1]; simpa using hi), hy1]
                          simp [Nat.mod_one]
                        refine ⟨_, _, _, w, .inl rfl, hrun, ho, fun id μ' hid => .sl hid (Nat.le_refl _) ?_ b1⟩
                        rw [← Array.length_toList, harr, repA_length, hy1]; simp
                      · rename_i y r2
                        cases h
                        have hb := VRs.rep hv.cells cn
                        rw [← harr] at hb
                        have ho := blockOf_ok hb e
                        rw [Array.toArray_toList] at ho
                        refine ⟨_, _, _, w, .inl rfl, hrun, ho, fun id μ' hid => .sl hid (Nat.le_refl _) ?_ b1⟩
                        rw [harr, repA_length, Array.length_toList, hsz]; omega
                  · cases h
              · cases h
            · cases h
          · cases h
        · cases h
      · cases h
    · cases h
  · cases h
theorem make_ok (hG : GR G μ ρ H w) {t : TypeId} {l c : AV} {l' c' : Value} (hl : VR μ ρ l l') (hc : VR μ ρ c c') {m : Mk} (h : makeM P t l c = some m) : ValOK P G μ ρ (Instr.makeSlice t l' c') w (m.at H).1 (m.at H).2 := (make_mk hl hc h).val hG
end
end Vx
