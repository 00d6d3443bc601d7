/-
  append(bytes, string...).
-/
import Derived.Test.YtmgejgbomglegaaGreatDoorVxS
namespace Vx
open Go
section
variable {P : Program} {G : Gd} {μ : Mu} {ρ : Nat → Int} {H : Heap} {w : World}

noncomputable def appendS (P : Program) (H : Heap) (ats : List TypeId) (s x : AV) : Option (AV × Heap) :=
  match ats with
  | [t, u] => match P.underlying u with
    | some .string => match P.underlying t with
      | some (.slice e) => match P.info? e with
        | some ie => match strL x with
          | some l => match Nat.beq ie.size 1 with
            | true => match Nat.beq ie.bytes 1 with
              | true => match zeroA P e with
                | some z => match Nat.beq z.cells.length 1 with
                  | true => match Nat.beq l.length 0 with
                    | true => match s with
                      | .nils => some (s, H)
                      | .sl .. => some (s, H)
                      | _ => none
                    | false => match s with
                      | .nils => match Nat.ble l.length 1099511627776 with
                        | true => some (.sl H.next 0 l.length l.length 1, H.add (blockOf (l.map (AV.int .u8)) e))
                        | false => none
                      | .sl k o len _ esz => match Nat.beq esz 1 with
                        | true => match Nat.beq o 0 with
                          | true => match H.tr.get k with
                            | some (.cells c d m e') => match Nat.beq e e' with
                              | true => match Nat.ble len m with
                                | true => match Nat.ble (Nat.add len l.length) 1099511627776 with
                                  | true => some (.sl H.next 0 (Nat.add len l.length) (Nat.add len l.length) 1, (H.kill k).add (.cells (ofList (l.map (AV.int .u8)) len c) d (Nat.add len l.length) e))
                                  | false => none
                                | false => none
                              | false => none
                            | _ => none
                          | false => none
                        | false => none
                      | _ => none
                  | false => none
                | none => none
              | false => none
            | false => none
          | none => none
        | none => none
      | _ => none
    | _ => none
  | _ => none
theorem appendS_ok (hG : GR G μ ρ H w) {ats : Array TypeId} {ty : TypeId} {s x : AV} {s' x' : Value} (hs : VR μ ρ s s') (hx : VR μ ρ x x') {v : AV} {H' : Heap} (h : appendS P H ats.toList s x = some (v, H')) :
    ValOK P G μ ρ (Builtin.append_ ats ty #[s', x']) w v H' := by
  unfold appendS at h
  split at h
  · rename_i t u hats
    have hats' : ats = #[t, u] := Array.toList_inj.1 hats
    subst hats'
    split at h
    · rename_i huu
      split at h
      · rename_i e hu
        cases hie : P.info? e with
        | none => simp [hie] at h
        | some ie =>
          simp only [hie] at h
          split at h
          · rename_i l hl
            obtain ⟨st, rfl, hsv⟩ := strL_ok hx hl
            have hlen := hsv.len
            have hcells := hsv.cells (μ := μ)
            have hcl := Lib.strCells_length st
            split at h
            · rename_i hs1
              have hs1 := Nat.eq_of_beq_eq_true hs1
              split at h
              · rename_i hb1
                have hb1 := Nat.eq_of_beq_eq_true hb1
                cases hz : zeroA P e with
                | none => simp [hz] at h
                | some z =>
                  simp only [hz] at h
                  obtain ⟨i, z', hi, hz', hv⟩ := zeroA_ok (μ := μ) (ρ := ρ) hz
                  rw [hie] at hi; cases hi
                  split at h
                  · rename_i hzl
                    have hzl := Nat.eq_of_beq_eq_true hzl
                    have hzs := hv.cells.length
                    simp only [Array.length_toList] at hzs
                    split at h
                    · -- nothing to append
                      rename_i h0
                      have h0 := Nat.eq_of_beq_eq_true h0
                      have hst0 : st.size = 0 := by omega
                      have hf := Lib.run_firstCells_string (P := P) w ie.size st
                      have he : (Lib.strCells st).toArray = #[] := by
                        have : Lib.strCells st = [] := List.eq_nil_of_length_eq_zero (by omega)
                        rw [this]
                      rw [he, hst0] at hf
                      have key : ∀ (a : Option Addr) (n c : Nat), n ≤ c → (Builtin.append_ #[t, u] ty #[.slice a n c, .string st]).run P w = .ok (.slice a n c) w := fun a n c hlc => by
                        cases a <;> simp [Builtin.append_, run_underlying hu, run_underlying huu, Go.sizeOf, typeInfo, hie, Builtin.lenOf, hst0, hlc, hf, storeCells]
                      split at h
                      · cases h; cases hs
                        exact ValOK.pure hG (key _ _ _ (Nat.le_refl _)) .nils
                      · cases h
                        cases hs with
                        | sl hb h1 h2 h3 => exact ValOK.pure hG (key _ _ _ (by omega)) (.sl hb h1 h2 h3)
                      · cases h
                    · rename_i h0
                      have hnx : 0 < st.size := by
                        rcases Nat.eq_zero_or_pos st.size with hq | hq
                        · rw [hlen, hq] at h0; cases h0
                        · exact hq
                      split at h
                      · -- nil
                        cases hs
                        split at h
                        · rename_i b1
                          cases h
                          have b1 := Nat.le_of_ble_eq_true b1
                          have hrun := run_append_nil_string (P := P) (w := w) t u ty e ie z' hu huu hie hz' st hnx (by omega) (by rw [hb1]; omega)
                          have hgc := grownCap_ge w st.size 0 e
                          obtain ⟨gc, hgce⟩ : ∃ gc, gc = grownCap w st.size 0 e := ⟨_, rfl⟩
                          rw [← hgce] at hrun hgc
                          have hdat : (st.data.map fun b => Value.int .u8 (b.toNat : Int)) = (Lib.strCells st).toArray := by
                            apply Array.toList_inj.1
                            simp [Lib.strCells]
                          rw [hdat] at hrun
                          have ho : OR μ ρ (gc * 1) (.cells ((Lib.strCells st).toArray ++ Builtin.zeroCells z'.cells (gc - st.size)) e (0, 0)) (blockOf (l.map (AV.int .u8)) e) := by
                            refine ⟨_, rfl, ?_, ?_, fun i hi => ?_⟩
                            · simp only [Array.size_append, List.size_toArray, zeroCells_size, hcl]
                              rw [show z'.cells.size = 1 by omega]; omega
                            · simp; omega
                            · rw [cget_ofList, dif_pos ⟨Nat.zero_le _, by simpa using hi⟩]
                              obtain ⟨v', h1, h2⟩ := hcells.get (List.getElem?_eq_getElem (show i < (l.map (AV.int .u8)).length from hi))
                              refine ⟨v', ?_, by simpa using h2⟩
                              have hi' : i < st.size := by have hi2 : i < (l.map (AV.int .u8)).length := hi; simp at hi2; omega
                              rw [Array.getElem?_append_left (by simpa [hcl] using hi')]
                              simpa using h1
                          obtain ⟨g1, g2, g3⟩ := hG.drew.alloc ho
                          refine ⟨_, _, _, hrun, g2, ?_, g1, (Fr.drew G w).trans g3⟩
                          rw [hlen]
                          exact .sl (Mu.upd_self _ _ _) hgc (by simp) (Nat.le_refl _)
                        · cases h
                      · -- a slice
                        rename_i k o len cap esz
                        cases hs with
                        | @sl _ _ _ _ _ b n cap' hb c1 c2 c3 =>
                        split at h
                        · rename_i hes
                          have hes := Nat.eq_of_beq_eq_true hes
                          subst hes
                          split at h
                          · rename_i ho0
                            have ho0 := Nat.eq_of_beq_eq_true ho0
                            subst ho0
                            split at h
                            · rename_i c d m e' hk
                              split at h
                              · rename_i hee
                                have hee := Nat.eq_of_beq_eq_true hee
                                subst hee
                                split at h
                                · rename_i hm
                                  have hm := Nat.le_of_ble_eq_true hm
                                  split at h
                                  · rename_i b2
                                    cases h
                                    have b2 := Nat.le_of_ble_eq_true b2
                                    simp only [Nat.add_eq, hlen] at b2 ⊢
                                    obtain ⟨b1', n1, x1, e1, _, e3, arr, hxe, e4, e5, e6⟩ := hG.obj k _ hk
                                    rw [hb] at e1; cases e1
                                    subst hxe
                                    have newOK : ∀ (a2 : Array Value), (∀ i, i < len → a2[i]? = arr[i]?) → (∀ i, i < st.size → a2[len + i]? = (Lib.strCells st)[i]?) →
                                        ∀ i, i < len + st.size → ∃ v', a2[i]? = some v' ∧ VR μ ρ (cget (ofList (l.map (AV.int .u8)) len c) d i) v' := fun a2 h1 h2 i hi => by
                                      by_cases hil : i < len
                                      · obtain ⟨v', q1, q2⟩ := e6 i (by omega)
                                        rw [cget_ofList, dif_neg (by omega), h1 i hil]
                                        exact ⟨v', q1, q2⟩
                                      · have hb2 : i - len < (l.map (AV.int .u8)).length := by simp; omega
                                        rw [cget_ofList, dif_pos ⟨by omega, hb2⟩]
                                        obtain ⟨v', q1, q2⟩ := hcells.get (List.getElem?_eq_getElem hb2)
                                        have := h2 (i - len) (by omega)
                                        rw [show len + (i - len) = i by omega] at this
                                        exact ⟨v', this.trans q1, q2⟩
                                    by_cases hcap : len + st.size ≤ cap'
                                    · have hfit : len + st.size ≤ arr.size := by omega
                                      have hrun := Lib.run_append_room_string (P := P) w t u ty e ie hu huu hie hs1 b len cap' arr e3 st hcap hfit
                                      obtain ⟨A, hA⟩ : ∃ A, A = (arr.toList.take len ++ Lib.strCells st ++ arr.toList.drop (len + st.size)).toArray := ⟨_, rfl⟩
                                      rw [← hA] at hrun
                                      have hAs : A.size = n := by rw [hA]; simp [hcl]; omega
                                      have hA1 : ∀ i, i < len → A[i]? = arr[i]? := fun i hi => by
                                        rw [hA]; simp only [List.getElem?_toArray]
                                        rw [List.append_assoc, List.getElem?_append_left (by simp; omega), List.getElem?_take, if_pos hi]; simp
                                      have hA2 : ∀ i, i < st.size → A[len + i]? = (Lib.strCells st)[i]? := fun i hi => by
                                        rw [hA]; simp only [List.getElem?_toArray]
                                        rw [List.append_assoc, List.getElem?_append_right (by simp; omega), List.getElem?_append_left (by simp [hcl]; omega)]
                                        congr 1; simp; omega
                                      have ho : OR μ ρ n (.cells A e (0, 0)) (.cells (ofList (l.map (AV.int .u8)) len c) d (len + st.size) e) :=
                                        ⟨A, rfl, hAs, by omega, newOK A hA1 hA2⟩
                                      obtain ⟨g1, g2, g3⟩ := hG.move (w' := w.setRow b A) hk hb (fun b' hne => setRow_other _ _ _ _ hne) (setRow_heap w b arr A e (0, 0) e3) (by simp) ho rfl rfl rfl
                                      exact ⟨_, _, _, hrun, g2, .sl (Mu.upd_self _ _ _) hcap (by simpa using c2) (Nat.le_refl _), g1, g3⟩
                                    · have holds : ∃ olds : List Value, olds.length = len * ie.size ∧ (∀ j v, olds[j]? = some v → w.cell? ((⟨b, 0, none⟩ : Addr).add j) = some v) ∧ ∀ i, i < len → olds[i]? = arr[i]? := by
                                        refine ⟨arr.toList.take len, by rw [hs1]; simp; omega, fun j v hj => ?_, fun i hi => ?_⟩
                                        · rw [addr_add]
                                          rw [List.getElem?_take] at hj
                                          split at hj
                                          · simp [World.cell?, e3]; simpa using hj
                                          · cases hj
                                        · rw [List.getElem?_take, if_pos hi]; simp
                                      obtain ⟨olds, hol, hoc, hoa⟩ := holds
                                      have hfits := growslice_fits (need := len + st.size) (old := cap') (bytes := ie.bytes) (by omega) (by rw [hb1]; omega)
                                      have hrun := Lib.run_append_grow_string (P := P) w t u ty e ie z' hu huu hie hz' ⟨b, 0, none⟩ len cap' olds hol hoc st (by omega) (by omega) hfits
                                      have hgc := grownCap_ge w (len + st.size) cap' e
                                      obtain ⟨gc, hgce⟩ : ∃ gc, gc = grownCap w (len + st.size) cap' e := ⟨_, rfl⟩
                                      rw [← hgce] at hrun hgc
                                      rw [hs1, Nat.mul_one] at hol
                                      obtain ⟨A, hA⟩ : ∃ A, A = olds.toArray ++ (Lib.strCells st).toArray ++ Builtin.zeroCells z'.cells (gc - (len + st.size)) := ⟨_, rfl⟩
                                      rw [← hA] at hrun
                                      have hAs : A.size = gc * 1 := by
                                        rw [hA]; simp only [Array.size_append, List.size_toArray, zeroCells_size, hol, hcl]
                                        rw [show z'.cells.size = 1 by omega]; omega
                                      have hA1 : ∀ i, i < len → A[i]? = arr[i]? := fun i hi => by
                                        rw [hA, Array.append_assoc, Array.getElem?_append_left (by simp; omega), ← hoa i hi]; simp
                                      have hA2 : ∀ i, i < st.size → A[len + i]? = (Lib.strCells st)[i]? := fun i hi => by
                                        rw [hA, Array.append_assoc, Array.getElem?_append_right (by simp; omega), Array.getElem?_append_left (by simp [hcl, hol]; omega)]
                                        simp [hol]
                                      have ho : OR μ ρ (gc * 1) (.cells A e (0, 0)) (.cells (ofList (l.map (AV.int .u8)) len c) d (len + st.size) e) :=
                                        ⟨A, rfl, hAs, by omega, newOK A hA1 hA2⟩
                                      obtain ⟨g1, g2, g3⟩ := (hG.drew.kill k).alloc ho
                                      exact ⟨_, _, _, hrun, g2, .sl (Mu.upd_self _ _ _) hgc (by simp) (Nat.le_refl _), g1, (Fr.drew G w).trans g3⟩
                                  · cases h
                                · cases h
                              · cases h
                            · cases h
                          · cases h
                        · cases h
                      · cases h
                  · cases h
              · cases h
            · cases h
          · cases h
      · cases h
    · cases h
  · cases h
/-- append to a slice of no capacity. -/
noncomputable def appendE (P : Program) (H : Heap) (ats : List TypeId) (k o : Nat) (x : AV) : Option (AV × Heap) :=
  match ats with
  | [t, u] => match Nat.beq t u with
    | true => match P.underlying t with
      | some (.slice e) => match P.info? e with
        | some ie => match isNone' x with
          | true => some (.sle k o, H)
          | false => match x with
            | .sl kx ox nx cx ex => match srcA H (.sl kx ox nx cx ex) ie.size with
              | some news => match zeroA P e with
                | some z => match Nat.beq z.cells.length ie.size with
                  | true => match Nat.ble (Nat.mul nx ie.bytes) 1099511627776 with
                    | true => match Nat.ble nx 1099511627776 with
                      | true => some (.sl H.next 0 nx nx ie.size, H.add (blockOf news e))
                      | false => none
                    | false => none
                  | false => none
                | none => none
              | none => none
            | _ => none
        | none => none
      | _ => none
    | false => none
  | _ => none
theorem appendE_ok (hG : GR G μ ρ H w) {ats : Array TypeId} {ty : TypeId} {k o : Nat} {x : AV} {s' x' : Value} (hs : VR μ ρ (.sle k o) s') (hx : VR μ ρ x x') {v : AV} {H' : Heap} (h : appendE P H ats.toList k o x = some (v, H')) :
    ValOK P G μ ρ (Builtin.append_ ats ty #[s', x']) w v H' := by
  unfold appendE at h
  split at h
  · rename_i t u hats
    have hats' : ats = #[t, u] := Array.toList_inj.1 hats
    subst hats'
    split at h
    · rename_i htu
      have htu := Nat.eq_of_beq_eq_true htu
      subst htu
      split at h
      · rename_i e hu
        cases hie : P.info? e with
        | none => simp [hie] at h
        | some ie =>
          simp only [hie] at h
          cases hs with
          | @sle _ _ b n hb =>
          split at h
          · rename_i hn
            cases h
            have hx0 : ∃ (a : Option Addr) (c : Nat), x' = .slice a 0 c := by
              unfold isNone' at hn
              split at hn
              · cases hx; exact ⟨none, 0, rfl⟩
              · cases hx with
                | sl _ _ _ _ =>
                have := Nat.eq_of_beq_eq_true hn
                subst this; exact ⟨_, _, rfl⟩
              · cases hn
            obtain ⟨ax, cx, rfl⟩ := hx0
            have hf : (Builtin.firstCells ie.size 0 (.slice ax 0 cx)).run P w = .ok #[] w := by
              cases ax <;> simp [Builtin.firstCells, loadCells, loadCellsFrom]
            refine ValOK.pure hG (v' := .slice (some ⟨b, o, none⟩) 0 0) ?_ (.sle hb)
            simp [Builtin.append_, run_underlying hu, Go.sizeOf, typeInfo, hie, Builtin.lenOf, hf, storeCells]
          · split at h
            · rename_i kx ox nx cx ex hnn
              split at h
              · rename_i news hsrc
                obtain ⟨bx, ox', nx', capx', kx', capx, eszx, cs, hxe, rfl, hcl, hnl, hcs, hvr⟩ := srcA_ok hG hx hsrc
                cases hxe
                have hnx : 0 < nx := by
                  rcases Nat.eq_zero_or_pos nx with h0 | h0
                  · subst h0; exact absurd hnn (by simp [isNone'])
                  · exact h0
                cases hz : zeroA P e with
                | none => simp [hz] at h
                | some z =>
                  simp only [hz] at h
                  obtain ⟨i, z', hi, hz', hv⟩ := zeroA_ok (μ := μ) (ρ := ρ) hz
                  rw [hie] at hi; cases hi
                  split at h
                  · rename_i hzl
                    have hzl := Nat.eq_of_beq_eq_true hzl
                    have hzs := hv.cells.length
                    simp only [Array.length_toList] at hzs
                    split at h
                    · rename_i b1
                      split at h
                      · rename_i b2
                        cases h
                        have b1 := Nat.le_of_ble_eq_true b1
                        have b2 := Nat.le_of_ble_eq_true b2
                        simp only [Nat.mul_eq] at b1
                        have hfits := growslice_fits (need := 0 + nx) (old := 0) (bytes := ie.bytes) (by omega) (by rw [Nat.zero_add]; omega)
                        have hrun := run_append_grow (P := P) (w := w) t ty e ie z' hu hie hz' ⟨b, o, none⟩ 0 0 [] (by simp) (fun j v hj => by simp at hj) ⟨bx, ox, none⟩ nx capx' cs hcl hcs (by omega) (by omega) hfits
                        simp only [Nat.zero_add] at hrun
                        have hgc := grownCap_ge w nx 0 e
                        obtain ⟨gc, hgce⟩ : ∃ gc, gc = grownCap w nx 0 e := ⟨_, rfl⟩
                        rw [← hgce] at hrun hgc
                        have he0 : (#[] : Array Value) ++ cs.toArray = cs.toArray := by simp
                        have he1 : ([] : List Value).toArray = #[] := rfl
                        rw [he1, he0] at hrun
                        have ho : OR μ ρ (gc * ie.size) (.cells (cs.toArray ++ Builtin.zeroCells z'.cells (gc - nx)) e (0, 0)) (blockOf news e) := by
                          refine ⟨_, rfl, ?_, ?_, fun i hi => ?_⟩
                          · simp only [Array.size_append, List.size_toArray, zeroCells_size, hcl]
                            rw [show z'.cells.size = ie.size by omega, ← Nat.add_mul]; congr 1; omega
                          · rw [hnl]; exact Nat.mul_le_mul_right _ hgc
                          · rw [cget_ofList, dif_pos ⟨Nat.zero_le _, by simpa using hi⟩]
                            obtain ⟨v', h1, h2⟩ := hvr.get (List.getElem?_eq_getElem (show i < news.length from hi))
                            refine ⟨v', ?_, by simpa using h2⟩
                            rw [Array.getElem?_append_left (by simpa [hcl, ← hnl] using hi)]
                            simpa using h1
                        obtain ⟨g1, g2, g3⟩ := hG.drew.alloc ho
                        exact ⟨_, _, _, hrun, g2, .sl (Mu.upd_self _ _ _) hgc (by simp) (Nat.le_refl _), g1, (Fr.drew G w).trans g3⟩
                      · cases h
                    · cases h
                  · cases h
              · cases h
            · cases h
      · cases h
    · cases h
  · cases h
/-- append(s, make([]E, n)...), elements of one cell. -/
noncomputable def isBtE {α : Type} (t : Bt α) : Bool := Bt.rec (motive := fun _ => Bool) true (fun _ _ _ _ _ => false) t
noncomputable def avSame (d z : AV) : Bool :=
  match d with
  | .int .u8 (.lit (.ofNat a)) => match z with
    | .int .u8 (.lit (.ofNat b)) => Nat.beq a b
    | _ => false
  | _ => false
theorem avSame_eq {d z : AV} (h : avSame d z = true) : d = z := by
  unfold avSame at h
  split at h
  · split at h
    · rw [Nat.eq_of_beq_eq_true h]
    · cases h
  · cases h
theorem isBtE_ok {α : Type} {t : Bt α} (h : isBtE t = true) : t = .e := by
  cases t with
  | e => rfl
  | n => cases h
noncomputable def zeroTail (c : Tr AV) (d z : AV) (len n m : Nat) : Option (Tr AV) :=
  match Nat.ble n 4096 with
  | true => some (ofList (repA [z] n) len c)
  | false => match avSame d z with
    | false => none
    | true => match Nat.beq m len with
      | false => none
      | true => match Nat.ble 65536 m with
        | false => none
        | true => match isBtE c.far with
          | true => some c
          | false => none
noncomputable def isIntA (z : AV) : Bool :=
  match z with
  | .int _ (.lit _) => true
  | _ => false
theorem zeroTail_ok {c c' : Tr AV} {d z : AV} {len n m : Nat} (_hm : len ≤ m) (h : zeroTail c d z len n m = some c') : (∀ i, i < len → cget c' d i = cget c d i) ∧ ∀ i, len ≤ i → i < len + n → cget c' d i = z := by
  unfold zeroTail at h
  have hlen : (repA [z] n).length = n := by rw [repA_length]; simp
  have hall : ∀ n, ∀ x ∈ repA [z] n, x = z := fun n => by
    induction n with
    | zero => intro x hx; cases hx
    | succ n ih =>
      intro x hx
      simp only [repA, List.singleton_append, List.mem_cons] at hx
      rcases hx with h | h
      · exact h
      · exact ih x h
  split at h
  · cases h
    refine ⟨fun i hi => ?_, fun i h1 h2 => ?_⟩
    · rw [cget_ofList, dif_neg (by omega)]
    · rw [cget_ofList, dif_pos ⟨h1, by rw [hlen]; omega⟩]
      exact hall n _ (List.getElem_mem _)
  · split at h
    · cases h
    · rename_i hd
      split at h
      · cases h
      · rename_i hml
        split at h
        · cases h
        · rename_i hbig
          split at h
          · rename_i he
            cases h
            have hd : avSame d z = true := by cases hq : avSame d z with | true => rfl | false => exact absurd hq (by simpa using hd)
            have hml : m = len := by
              cases hq : Nat.beq m len with
              | true => exact Nat.eq_of_beq_eq_true hq
              | false => exact absurd hq (by simpa using hml)
            have hbig : 65536 ≤ m := by
              cases hq : Nat.ble 65536 m with
              | true => exact Nat.le_of_ble_eq_true hq
              | false => exact absurd hq (by simpa using hbig)
            have he := isBtE_ok he
            refine ⟨fun _ _ => rfl, fun i h1 h2 => ?_⟩
            have hg : c.get i = none := by
              unfold Tr.get
              have e1 : Nat.ble i 255 = false := by
                cases hq : Nat.ble i 255 with
                | false => rfl
                | true => have := Nat.le_of_ble_eq_true hq; omega
              have e2 : Nat.ble i 65535 = false := by
                cases hq : Nat.ble i 65535 with
                | false => rfl
                | true => have := Nat.le_of_ble_eq_true hq; omega
              rw [e1, e2, he]; rfl
            unfold cget
            rw [hg]
            exact avSame_eq hd
          · cases h
noncomputable def appendM (P : Program) (H : Heap) (ats : List TypeId) (s x : AV) : Option (AV × Heap) :=
  match ats with
  | [t, u] => match natOf x with
    | some n => match P.underlying t with
      | some (.slice e) => match P.underlying u with
        | some (.int _) => match P.info? e with
          | some ie => match Nat.beq ie.size 1 with
            | true => match Nat.ble ie.bytes 8 with
              | true => match zeroA P e with
                | some z => match isIntA z with
                  | true => match Nat.beq n 0 with
                    | true => match s with
                      | .nils => some (s, H)
                      | .sl .. => some (s, H)
                      | .sle .. => some (s, H)
                      | _ => none
                    | false => match Nat.ble n 1048576 with
                      | true => match s with
                        | .sl k o len _ esz => match Nat.beq esz 1 with
                          | true => match Nat.beq o 0 with
                            | true => match H.tr.get k with
                              | some (.cells c d m e') => match Nat.beq e e' with
                                | true => match Nat.ble len m with
                                  | true => match Nat.ble (Nat.add len n) 1099511627776 with
                                    | true => match zeroTail c d z len n m with
                                      | some c' => some (.sl H.next 0 (Nat.add len n) (Nat.add len n) 1, (H.kill k).add (.cells c' d (Nat.add len n) e))
                                      | none => none
                                    | false => none
                                  | false => none
                                | false => none
                              | _ => none
                            | false => none
                          | false => none
                        | _ => none
                      | false => none
                  | false => none
                | none => none
              | false => none
            | false => none
          | none => none
        | _ => none
      | _ => none
    | none => none
  | _ => none
theorem appendM_ok (hG : GR G μ ρ H w) {ats : Array TypeId} {ty : TypeId} {s x : AV} {s' x' : Value} (hs : VR μ ρ s s') (hx : VR μ ρ x x') {v : AV} {H' : Heap} (h : appendM P H ats.toList s x = some (v, H')) :
    ValOK P G μ ρ (Builtin.append_ ats ty #[s', x']) w v H' := by
  unfold appendM at h
  split at h
  · rename_i t u hats
    have hats' : ats = #[t, u] := Array.toList_inj.1 hats
    subst hats'
    split at h
    · rename_i n hn
      obtain ⟨kx, rfl⟩ := natOf_ok hx hn
      split at h
      · rename_i e hu
        split at h
        · rename_i ik hui
          cases hie : P.info? e with
          | none => simp [hie] at h
          | some ie =>
            simp only [hie] at h
            split at h
            · rename_i hs1
              have hs1 := Nat.eq_of_beq_eq_true hs1
              split at h
              · rename_i hb8
                have hb8 := Nat.le_of_ble_eq_true hb8
                cases hz : zeroA P e with
                | none => simp [hz] at h
                | some z =>
                  simp only [hz] at h
                  obtain ⟨i, z', hi, hz', hv⟩ := zeroA_ok (μ := μ) (ρ := ρ) hz
                  rw [hie] at hi; cases hi
                  split at h
                  · rename_i hint
                    obtain ⟨kz, ez, rfl⟩ : ∃ kz ez, z = .int kz ez := by
                      unfold isIntA at hint
                      split at hint
                      · exact ⟨_, _, rfl⟩
                      · cases hint
                    obtain ⟨nz, rfl⟩ : ∃ nz, z' = .int kz nz := by cases hv; exact ⟨_, rfl⟩
                    have hzc : (Value.int kz nz).cells = #[Value.int kz nz] := rfl
                    split at h
                    · -- nothing
                      rename_i h0
                      have h0 := Nat.eq_of_beq_eq_true h0
                      subst h0
                      have hw0 : IntKind.i64.wrap (0 : Int) = 0 := IntWalk.i64_in _ ⟨by omega, by omega⟩
                      have key : ∀ (a : Option Addr) (l c : Nat), l ≤ c → (Builtin.append_ #[t, u] ty #[.slice a l c, .int kx ((0 : Nat) : Int)]).run P w = .ok (.slice a l c) w := fun a l c hlc => by
                        cases a <;> simp [Builtin.append_, run_underlying hu, run_underlying hui, Go.sizeOf, typeInfo, hie, asInt, asIntOf, hw0, hlc, storeCells]
                      split at h
                      · cases h; cases hs; exact ValOK.pure hG (key _ _ _ (Nat.le_refl _)) .nils
                      · cases h
                        cases hs with
                        | sl hb h1 h2 h3 => exact ValOK.pure hG (key _ _ _ (by omega)) (.sl hb h1 h2 h3)
                      · cases h
                        cases hs with
                        | sle hb => exact ValOK.pure hG (key _ _ _ (Nat.le_refl _)) (.sle hb)
                      · cases h
                    · rename_i h0
                      have hn0 : 0 < n := by
                        rcases Nat.eq_zero_or_pos n with hq | hq
                        · rw [hq] at h0; cases h0
                        · exact hq
                      split at h
                      · rename_i hbig
                        have hbig := Nat.le_of_ble_eq_true hbig
                        split at h
                        · rename_i k o len cap esz
                          cases hs with
                          | @sl _ _ _ _ _ b nb cap' hb c1 c2 c3 =>
                          split at h
                          · rename_i hes
                            have hes := Nat.eq_of_beq_eq_true hes
                            subst hes
                            split at h
                            · rename_i ho0
                              have ho0 := Nat.eq_of_beq_eq_true ho0
                              subst ho0
                              split at h
                              · rename_i c d m e' hk
                                split at h
                                · rename_i hee
                                  have hee := Nat.eq_of_beq_eq_true hee
                                  subst hee
                                  split at h
                                  · rename_i hm
                                    have hm := Nat.le_of_ble_eq_true hm
                                    split at h
                                    · rename_i b2
                                      have b2 := Nat.le_of_ble_eq_true b2
                                      split at h
                                      · rename_i c' hc'
                                        cases h
                                        simp only [Nat.add_eq] at b2 ⊢
                                        obtain ⟨t1, t2⟩ := zeroTail_ok hm hc'
                                        obtain ⟨b1', n1, x1, e1, _, e3, arr, hxe, e4, e5, e6⟩ := hG.obj k _ hk
                                        rw [hb] at e1; cases e1
                                        subst hxe
                                        obtain ⟨Z, hZ⟩ : ∃ Z, Z = Builtin.zeroCells #[Value.int kz nz] n := ⟨_, rfl⟩
                                        have hZs : Z.size = n := by rw [hZ, zeroCells_size]; simp
                                        have hZg : ∀ i, i < n → Z[i]? = some (.int kz nz) := fun i hi => by
                                          rw [hZ, ← Array.getElem?_toList, zeroCells_list _ n (by simp), repA_get _ (by simp) n i (by simpa using hi)]
                                          simp [Nat.mod_one]
                                        have hwr : IntKind.i64.wrap (n : Int) = n := IntWalk.i64_in _ ⟨by omega, by omega⟩
                                        have hbytes : n * ie.bytes ≤ 1048576 * 8 := Nat.mul_le_mul hbig hb8
                                        have hb'' : ¬ (281474976710656 < (n : Int) * (ie.bytes : Int)) := by
                                          have : ((n * ie.bytes : Nat) : Int) ≤ 8388608 := by omega
                                          rw [Int.natCast_mul] at this; omega
                                        have hnn : ¬ ((n : Int) < 0) := by omega
                                        have hn00 : n ≠ 0 := by omega
                                        have newOK : ∀ (a2 : Array Value), (∀ i, i < len → a2[i]? = arr[i]?) → (∀ i, i < n → a2[len + i]? = Z[i]?) →
                                            ∀ i, i < len + n → ∃ v', a2[i]? = some v' ∧ VR μ ρ (cget c' d i) v' := fun a2 h1 h2 i hi => by
                                          by_cases hil : i < len
                                          · obtain ⟨v', q1, q2⟩ := e6 i (by omega)
                                            rw [t1 i hil, h1 i hil]
                                            exact ⟨v', q1, q2⟩
                                          · rw [t2 i (by omega) hi]
                                            have := h2 (i - len) (by omega)
                                            rw [show len + (i - len) = i by omega, hZg _ (by omega)] at this
                                            exact ⟨_, this, hv⟩
                                        by_cases hcap : len + n ≤ cap'
                                        · have hfit : len + 0 + Z.toList.length ≤ arr.size := by simp [hZs]; omega
                                          have hst := run_storeCells_at P b len e Z.toList 0 arr w e3 hfit (fun v hv => by
                                            obtain ⟨i, hi⟩ := List.mem_iff_getElem?.1 hv
                                            rw [Array.getElem?_toList] at hi
                                            have hlt : i < n := by
                                              rcases Nat.lt_or_ge i n with h | h
                                              · exact h
                                              · rw [Array.getElem?_eq_none (by omega)] at hi; cases hi
                                            rw [hZg i hlt] at hi
                                            cases hi; rfl)
                                          simp only [Nat.add_zero, Array.length_toList, hZs] at hst
                                          obtain ⟨A, hA⟩ : ∃ A, A = (arr.toList.take len ++ Z.toList ++ arr.toList.drop (len + n)).toArray := ⟨_, rfl⟩
                                          rw [← hA] at hst
                                          have hrun : (Builtin.append_ #[t, u] ty #[.slice (some ⟨b, 0, none⟩) len cap', .int kx (n : Int)]).run P w = .ok (.slice (some ⟨b, 0, none⟩) (len + n) cap') (w.setRow b A) := by
                                            simp [Builtin.append_, run_underlying hu, run_underlying hui, Go.sizeOf, typeInfo, zeroValue, hie, hz', asInt, asIntOf, hwr, hnn, hb'', hn00, hs1, hcap, hzc, ← hZ, Addr.add_lit, hst]
                                          have hAs : A.size = nb := by rw [hA]; simp [hZs]; omega
                                          have hA1 : ∀ i, i < len → A[i]? = arr[i]? := fun i hi => by
                                            rw [hA]; simp only [List.getElem?_toArray]
                                            rw [List.append_assoc, List.getElem?_append_left (by simp; omega), List.getElem?_take, if_pos hi]; simp
                                          have hA2 : ∀ i, i < n → A[len + i]? = Z[i]? := fun i hi => by
                                            rw [hA]; simp only [List.getElem?_toArray]
                                            rw [List.append_assoc, List.getElem?_append_right (by simp; omega), List.getElem?_append_left (by simp [hZs]; omega), Array.getElem?_toList]
                                            congr 1; simp; omega
                                          have ho : OR μ ρ nb (.cells A e (0, 0)) (.cells c' d (len + n) e) := ⟨A, rfl, hAs, by omega, newOK A hA1 hA2⟩
                                          obtain ⟨g1, g2, g3⟩ := hG.move (w' := w.setRow b A) hk hb (fun b' hne => setRow_other _ _ _ _ hne) (setRow_heap w b arr A e (0, 0) e3) (by simp) ho rfl rfl rfl
                                          exact ⟨_, _, _, hrun, g2, .sl (Mu.upd_self _ _ _) hcap (by simpa using c2) (Nat.le_refl _), g1, g3⟩
                                        · have holds : ∃ olds : List Value, olds.length = len * ie.size ∧ (∀ j v, olds[j]? = some v → w.cell? ((⟨b, 0, none⟩ : Addr).add j) = some v) ∧ ∀ i, i < len → olds[i]? = arr[i]? := by
                                            refine ⟨arr.toList.take len, by rw [hs1]; simp; omega, fun j v hj => ?_, fun i hi => ?_⟩
                                            · rw [addr_add]
                                              rw [List.getElem?_take] at hj
                                              split at hj
                                              · simp [World.cell?, e3]; simpa using hj
                                              · cases hj
                                            · rw [List.getElem?_take, if_pos hi]; simp
                                          obtain ⟨olds, hol, hoc, hoa⟩ := holds
                                          have hfits : Builtin.nextslicecap (len + n) cap' * ie.bytes ≤ 281474976710656 := growslice_fits (by omega) (by
                                            have : (len + n) * ie.bytes ≤ 1099511627776 * 8 := Nat.mul_le_mul b2 hb8
                                            omega)
                                          have h48 : ¬ (281474976710656 < Builtin.nextslicecap (len + n) cap' * ie.bytes) := by omega
                                          have h63 : ¬ (9223372036854775807 < ((len : Int) + (n : Int))) := by omega
                                          have hgc := grownCap_ge w (len + n) cap' e
                                          obtain ⟨gc, hgce⟩ : ∃ gc, gc = grownCap w (len + n) cap' e := ⟨_, rfl⟩
                                          rw [← hgce] at hgc
                                          have hf := run_firstCells_some (P := P) w.drew ie.size len ⟨b, 0, none⟩ len cap' olds hol (by simpa using hoc)
                                          rw [hs1] at hf
                                          obtain ⟨A, hA⟩ : ∃ A, A = olds.toArray ++ Z ++ Builtin.zeroCells #[Value.int kz nz] (gc - (len + n)) := ⟨_, rfl⟩
                                          have hrun : (Builtin.append_ #[t, u] ty #[.slice (some ⟨b, 0, none⟩) len cap', .int kx (n : Int)]).run P w = .ok (.slice (some ⟨w.heap.size, 0, none⟩) (len + n) gc) (w.drew.alloc (.cells A e (0, 0))) := by
                                            rw [hA, hgce]
                                            simp [Builtin.append_, run_underlying hu, run_underlying hui, Go.sizeOf, typeInfo, zeroValue, hie, hz', asInt, asIntOf, hwr, hnn, hb'', hn00, hs1, hcap, hzc, ← hZ, h63, h48, Question.forced, hf, newRow, grownCap]
                                          rw [hs1, Nat.mul_one] at hol
                                          have hAs : A.size = gc * 1 := by
                                            rw [hA]; simp only [Array.size_append, List.size_toArray, zeroCells_size, hol, hZs]
                                            simp; omega
                                          have hA1 : ∀ i, i < len → A[i]? = arr[i]? := fun i hi => by
                                            rw [hA, Array.append_assoc, Array.getElem?_append_left (by simp; omega), ← hoa i hi]; simp
                                          have hA2 : ∀ i, i < n → A[len + i]? = Z[i]? := fun i hi => by
                                            rw [hA, Array.append_assoc, Array.getElem?_append_right (by simp; omega), Array.getElem?_append_left (by simp [hZs, hol]; omega)]
                                            simp [hol]
                                          have ho : OR μ ρ (gc * 1) (.cells A e (0, 0)) (.cells c' d (len + n) e) := ⟨A, rfl, hAs, by omega, newOK A hA1 hA2⟩
                                          obtain ⟨g1, g2, g3⟩ := (hG.drew.kill k).alloc ho
                                          exact ⟨_, _, _, hrun, g2, .sl (Mu.upd_self _ _ _) hgc (by simp) (Nat.le_refl _), g1, (Fr.drew G w).trans g3⟩
                                      · cases h
                                    · cases h
                                  · cases h
                                · cases h
                              · cases h
                            · cases h
                          · cases h
                        · cases h
                      · cases h
                  · cases h
              · cases h
            · cases h
        · cases h
      · cases h
    · cases h
  · cases h
noncomputable def appendX (P : Program) (H : Heap) (ats : List TypeId) (s x : AV) : Option (AV × Heap) :=
  match strL x with
  | some _ => appendS P H ats s x
  | none => match appendM P H ats s x with
    | some r => some r
    | none => match s with
      | .sle k o => appendE P H ats k o x
      | s => appendB P H ats s x
theorem appendX_ok (hG : GR G μ ρ H w) {ats : Array TypeId} {ty : TypeId} {s x : AV} {s' x' : Value} (hs : VR μ ρ s s') (hx : VR μ ρ x x') {v : AV} {H' : Heap} (h : appendX P H ats.toList s x = some (v, H')) :
    ValOK P G μ ρ (Builtin.append_ ats ty #[s', x']) w v H' := by
  unfold appendX at h
  split at h
  · exact appendS_ok hG hs hx h
  · split at h
    · rename_i r hr
      cases h
      exact appendM_ok hG hs hx hr
    · split at h
      · exact appendE_ok hG hs hx h
      · exact appendB_ok hG hs hx h
end
end Vx
