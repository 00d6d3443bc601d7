/-
  append(bytes, string...).
-/
import Derived.Test.YtebgepekllelaaaVxS
namespace Vx
open Go
section
variable {P : Program} {G : Gd} {μ : Mu} {ρ : Nat → Int} {H : Heap} {w : World}

noncomputable def appendS (P : Program) (H : Heap) (ats : List TypeId) (s x : AV) : Option (AV × Heap) :=
  match ats with
  | [t, u] => match P.underlying u with
    | some .string => match P.underlying t with
      | some (.slice e) => match P.info? e with
        | some ie => match strL x with
          | some l => match Nat.beq ie.size 1 with
            | true => match Nat.beq ie.bytes 1 with
              | true => match zeroA P e with
                | some z => match Nat.beq z.cells.length 1 with
                  | true => match Nat.beq l.length 0 with
                    | true => match s with
                      | .nils => some (s, H)
                      | .sl .. => some (s, H)
                      | _ => none
                    | false => match s with
                      | .nils => match Nat.ble l.length 1099511627776 with
                        | true => some (.sl H.next 0 l.length l.length 1, H.add (blockOf (l.map (AV.int .u8)) e))
                        | false => none
                      | .sl k o len _ esz => match Nat.beq esz 1 with
                        | true => match Nat.beq o 0 with
                          | true => match H.tr.get k with
                            | some (.cells c d m e') => match Nat.beq e e' with
                              | true => match Nat.ble len m with
                                | true => match Nat.ble (Nat.add len l.length) 1099511627776 with
                                  | true => some (.sl H.next 0 (Nat.add len l.length) (Nat.add len l.length) 1, (H.kill k).add (.cells (ofList (l.map (AV.int .u8)) len c) d (Nat.add len l.length) e))
                                  | false => none
                                | false => none
                              | false => none
                            | _ => none
                          | false => none
                        | false => none
                      | _ => none
                  | false => none
                | none => none
              | false => none
            | false => none
          | none => none
        | none => none
      | _ => none
    | _ => none
  | _ => none
theorem appendS_ok (hG : GR G μ ρ H w) {ats : Array TypeId} {ty : TypeId} {s x : AV} {s' x' : Value} (hs : VR μ ρ s s') (hx : VR μ ρ x x') {v : AV} {H' : Heap} (h : appendS P H ats.toList s x = some (v, H')) :
    ValOK P G μ ρ (Builtin.append_ ats ty #[s', x']) w v H' := by
  unfold appendS at h
  split at h
  · rename_i t u hats
    have hats' : ats = #[t, u] := Array.toList_inj.1 hats
    subst hats'
    split at h
    · rename_i huu
      split at h
      · rename_i e hu
        cases hie : P.info? e with
        | none => simp [hie] at h
        | some ie =>
          simp only [hie] at h
          split at h
          · rename_i l hl
            obtain ⟨st, rfl, hsv⟩ := strL_ok hx hl
            have hlen := hsv.len
            have hcells := hsv.cells (μ := μ)
            have hcl := Lib.strCells_length st
            split at h
            · rename_i hs1
              have hs1 := Nat.eq_of_beq_eq_true hs1
              split at h
              · rename_i hb1
                have hb1 := Nat.eq_of_beq_eq_true hb1
                cases hz : zeroA P e with
                | none => simp [hz] at h
                | some z =>
                  simp only [hz] at h
                  obtain ⟨i, z', hi, hz', hv⟩ := zeroA_ok (μ := μ) (ρ := ρ) hz
                  rw [hie] at hi; cases hi
                  split at h
                  · rename_i hzl
                    have hzl := Nat.eq_of_beq_eq_true hzl
                    have hzs := hv.cells.length
                    simp only [Array.length_toList] at hzs
                    split at h
                    · -- nothing to append
                      rename_i h0
                      have h0 := Nat.eq_of_beq_eq_true h0
                      have hst0 : st.size = 0 := by omega
                      have hf := Lib.run_firstCells_string (P := P) w ie.size st
                      have he : (Lib.strCells st).toArray = #[] := by
                        have : Lib.strCells st = [] := List.eq_nil_of_length_eq_zero (by omega)
                        rw [this]
                      rw [he, hst0] at hf
                      have key : ∀ (a : Option Addr) (n c : Nat), n ≤ c → (Builtin.append_ #[t, u] ty #[.slice a n c, .string st]).run P w = .ok (.slice a n c) w := fun a n c hlc => by
                        cases a <;> simp [Builtin.append_, run_underlying hu, run_underlying huu, Go.sizeOf, typeInfo, hie, Builtin.lenOf, hst0, hlc, hf, storeCells]
                      split at h
                      · cases h; cases hs
                        exact ValOK.pure hG (key _ _ _ (Nat.le_refl _)) .nils
                      · cases h
                        cases hs with
                        | sl hb h1 h2 h3 => exact ValOK.pure hG (key _ _ _ (by omega)) (.sl hb h1 h2 h3)
                      · cases h
                    · rename_i h0
                      have hnx : 0 < st.size := by
                        rcases Nat.eq_zero_or_pos st.size with hq | hq
                        · rw [hlen, hq] at h0; cases h0
                        · exact hq
                      split at h
                      · -- nil
                        cases hs
                        split at h
                        · rename_i b1
                          cases h
                          have b1 := Nat.le_of_ble_eq_true b1
                          have hrun := run_append_nil_string (P := P) (w := w) t u ty e ie z' hu huu hie hz' st hnx (by omega) (by rw [hb1]; omega)
                          have hgc := grownCap_ge w st.size 0 e
                          obtain ⟨gc, hgce⟩ : ∃ gc, gc = grownCap w st.size 0 e := ⟨_, rfl⟩
                          rw [← hgce] at hrun hgc
                          have hdat : (st.data.map fun b => Value.int .u8 (b.toNat : Int)) = (Lib.strCells st).toArray := by
                            apply Array.toList_inj.1
                            simp [Lib.strCells]
                          rw [hdat] at hrun
                          have ho : OR μ ρ (gc * 1) (.cells ((Lib.strCells st).toArray ++ Builtin.zeroCells z'.cells (gc - st.size)) e (0, 0)) (blockOf (l.map (AV.int .u8)) e) := by
                            refine ⟨_, rfl, ?_, ?_, fun i hi => ?_⟩
                            · simp only [Array.size_append, List.size_toArray, zeroCells_size, hcl]
                              rw [show z'.cells.size = 1 by omega]; omega
                            · simp; omega
                            · rw [cget_ofList, dif_pos ⟨Nat.zero_le _, by simpa using hi⟩]
                              obtain ⟨v', h1, h2⟩ := hcells.get (List.getElem?_eq_getElem (show i < (l.map (AV.int .u8)).length from hi))
                              refine ⟨v', ?_, by simpa using h2⟩
                              have hi' : i < st.size := by have hi2 : i < (l.map (AV.int .u8)).length := hi; simp at hi2; omega
                              rw [Array.getElem?_append_left (by simpa [hcl] using hi')]
                              simpa using h1
                          obtain ⟨g1, g2, g3⟩ := hG.drew.alloc ho
                          refine ⟨_, _, _, hrun, g2, ?_, g1, (Fr.drew G w).trans g3⟩
                          rw [hlen]
                          exact .sl (Mu.upd_self _ _ _) hgc (by simp) (Nat.le_refl _)
                        · cases h
                      · -- a slice
                        rename_i k o len cap esz
                        cases hs with
                        | @sl _ _ _ _ _ b n cap' hb c1 c2 c3 =>
                        split at h
                        · rename_i hes
                          have hes := Nat.eq_of_beq_eq_true hes
                          subst hes
                          split at h
                          · rename_i ho0
                            have ho0 := Nat.eq_of_beq_eq_true ho0
                            subst ho0
                            split at h
                            · rename_i c d m e' hk
                              split at h
                              · rename_i hee
                                have hee := Nat.eq_of_beq_eq_true hee
                                subst hee
                                split at h
                                · rename_i hm
                                  have hm := Nat.le_of_ble_eq_true hm
                                  split at h
                                  · rename_i b2
                                    cases h
                                    have b2 := Nat.le_of_ble_eq_true b2
                                    simp only [Nat.add_eq, hlen] at b2 ⊢
                                    obtain ⟨b1', n1, x1, e1, _, e3, arr, hxe, e4, e5, e6⟩ := hG.obj k _ hk
                                    rw [hb] at e1; cases e1
                                    subst hxe
                                    have newOK : ∀ (a2 : Array Value), (∀ i, i < len → a2[i]? = arr[i]?) → (∀ i, i < st.size → a2[len + i]? = (Lib.strCells st)[i]?) →
                                        ∀ i, i < len + st.size → ∃ v', a2[i]? = some v' ∧ VR μ ρ (cget (ofList (l.map (AV.int .u8)) len c) d i) v' := fun a2 h1 h2 i hi => by
                                      by_cases hil : i < len
                                      · obtain ⟨v', q1, q2⟩ := e6 i (by omega)
                                        rw [cget_ofList, dif_neg (by omega), h1 i hil]
                                        exact ⟨v', q1, q2⟩
                                      · have hb2 : i - len < (l.map (AV.int .u8)).length := by simp; omega
                                        rw [cget_ofList, dif_pos ⟨by omega, hb2⟩]
                                        obtain ⟨v', q1, q2⟩ := hcells.get (List.getElem?_eq_getElem hb2)
                                        have := h2 (i - len) (by omega)
                                        rw [show len + (i - len) = i by omega] at this
                                        exact ⟨v', this.trans q1, q2⟩
                                    by_cases hcap : len + st.size ≤ cap'
                                    · have hfit : len + st.size ≤ arr.size := by omega
                                      have hrun := Lib.run_append_room_string (P := P) w t u ty e ie hu huu hie hs1 b len cap' arr e3 st hcap hfit
                                      obtain ⟨A, hA⟩ : ∃ A, A = (arr.toList.take len ++ Lib.strCells st ++ arr.toList.drop (len + st.size)).toArray := ⟨_, rfl⟩
                                      rw [← hA] at hrun
                                      have hAs : A.size = n := by rw [hA]; simp [hcl]; omega
                                      have hA1 : ∀ i, i < len → A[i]? = arr[i]? := fun i hi => by
                                        rw [hA]; simp only [List.getElem?_toArray]
                                        rw [List.append_assoc, List.getElem?_append_left (by simp; omega), List.getElem?_take, if_pos hi]; simp
                                      have hA2 : ∀ i, i < st.size → A[len + i]? = (Lib.strCells st)[i]? := fun i hi => by
                                        rw [hA]; simp only [List.getElem?_toArray]
                                        rw [List.append_assoc, List.getElem?_append_right (by simp; omega), List.getElem?_append_left (by simp [hcl]; omega)]
                                        congr 1; simp; omega
                                      have ho : OR μ ρ n (.cells A e (0, 0)) (.cells (ofList (l.map (AV.int .u8)) len c) d (len + st.size) e) :=
                                        ⟨A, rfl, hAs, by omega, newOK A hA1 hA2⟩
                                      obtain ⟨g1, g2, g3⟩ := hG.move (w' := w.setRow b A) hk hb (fun b' hne => setRow_other _ _ _ _ hne) (setRow_heap w b arr A e (0, 0) e3) (by simp) ho rfl rfl rfl
                                      exact ⟨_, _, _, hrun, g2, .sl (Mu.upd_self _ _ _) hcap (by simpa using c2) (Nat.le_refl _), g1, g3⟩
                                    · have holds : ∃ olds : List Value, olds.length = len * ie.size ∧ (∀ j v, olds[j]? = some v → w.cell? ((⟨b, 0, none⟩ : Addr).add j) = some v) ∧ ∀ i, i < len → olds[i]? = arr[i]? := by
                                        refine ⟨arr.toList.take len, by rw [hs1]; simp; omega, fun j v hj => ?_, fun i hi => ?_⟩
                                        · rw [addr_add]
                                          rw [List.getElem?_take] at hj
                                          split at hj
                                          · simp [World.cell?, e3]; simpa using hj
                                          · cases hj
                                        · rw [List.getElem?_take, if_pos hi]; simp
                                      obtain ⟨olds, hol, hoc, hoa⟩ := holds
                                      have hfits := growslice_fits (need := len + st.size) (old := cap') (bytes := ie.bytes) (by omega) (by rw [hb1]; omega)
                                      have hrun := Lib.run_append_grow_string (P := P) w t u ty e ie z' hu huu hie hz' ⟨b, 0, none⟩ len cap' olds hol hoc st (by omega) (by omega) hfits
                                      have hgc := grownCap_ge w (len + st.size) cap' e
                                      obtain ⟨gc, hgce⟩ : ∃ gc, gc = grownCap w (len + st.size) cap' e := ⟨_, rfl⟩
                                      rw [← hgce] at hrun hgc
                                      rw [hs1, Nat.mul_one] at hol
                                      obtain ⟨A, hA⟩ : ∃ A, A = olds.toArray ++ (Lib.strCells st).toArray ++ Builtin.zeroCells z'.cells (gc - (len + st.size)) := ⟨_, rfl⟩
                                      rw [← hA] at hrun
                                      have hAs : A.size = gc * 1 := by
                                        rw [hA]; simp only [Array.size_append, List.size_toArray, zeroCells_size, hol, hcl]
                                        rw [show z'.cells.size = 1 by omega]; omega
                                      have hA1 : ∀ i, i < len → A[i]? = arr[i]? := fun i hi => by
                                        rw [hA, Array.append_assoc, Array.getElem?_append_left (by simp; omega), ← hoa i hi]; simp
                                      have hA2 : ∀ i, i < st.size → A[len + i]? = (Lib.strCells st)[i]? := fun i hi => by
                                        rw [hA, Array.append_assoc, Array.getElem?_append_right (by simp; omega), Array.getElem?_append_left (by simp [hcl, hol]; omega)]
                                        simp [hol]
                                      have ho : OR μ ρ (gc * 1) (.cells A e (0, 0)) (.cells (ofList (l.map (AV.int .u8)) len c) d (len + st.size) e) :=
                                        ⟨A, rfl, hAs, by omega, newOK A hA1 hA2⟩
                                      obtain ⟨g1, g2, g3⟩ := (hG.drew.kill k).alloc ho
                                      exact ⟨_, _, _, hrun, g2, .sl (Mu.upd_self _ _ _) hgc (by simp) (Nat.le_refl _), g1, (Fr.drew G w).trans g3⟩
                                  · cases h
                                · cases h
                              · cases h
                            · cases h
                          · cases h
                        · cases h
                      · cases h
                  · cases h
              · cases h
            · cases h
          · cases h
      · cases h
    · cases h
  · cases h
noncomputable def appendX (P : Program) (H : Heap) (ats : List TypeId) (s x : AV) : Option (AV × Heap) :=
  match strL x with
  | some _ => appendS P H ats s x
  | none => appendB P H ats s x
theorem appendX_ok (hG : GR G μ ρ H w) {ats : Array TypeId} {ty : TypeId} {s x : AV} {s' x' : Value} (hs : VR μ ρ s s') (hx : VR μ ρ x x') {v : AV} {H' : Heap} (h : appendX P H ats.toList s x = some (v, H')) :
    ValOK P G μ ρ (Builtin.append_ ats ty #[s', x']) w v H' := by
  unfold appendX at h
  split at h
  · exact appendS_ok hG hs hx h
  · exact appendB_ok hG hs hx h
end
end Vx
