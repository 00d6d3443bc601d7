/-
  append, copy, len.
-/
import Derived.Test.YtmgejgbomglegaaGreatDoorVx7
namespace Vx
open Go
section
variable {P : Program} {G : Gd} {μ : Mu} {ρ : Nat → Int} {H : Heap} {w : World}

noncomputable def allOne : List AV → Bool
  | [] => true
  | v :: r => match v.one with
    | true => allOne r
    | false => false
theorem allOne_ok : ∀ {l : List AV} {l' : List Value}, VRs μ ρ l l' → allOne l = true → ∀ v ∈ l', v.oneCell' = true
  | [], _, .nil, _, v, hv => by simp at hv
  | x :: r, _, .cons h hs, ho, v, hv => by
    simp only [allOne] at ho
    split at ho
    · rename_i h1
      rcases List.mem_cons.1 hv with rfl | hv
      · exact h.one h1
      · exact allOne_ok hs ho v hv
    · cases ho

/-- The cells of a slice, of n elements. -/
noncomputable def srcA (H : Heap) (x : AV) (size : Nat) : Option (List AV) :=
  match x with
  | .sl k o len _ _ => match H.tr.get k with
    | some (.cells c d m _) => match Nat.ble (Nat.add o (Nat.mul len size)) m with
      | true => some (cellsFrom c d o (Nat.mul len size))
      | false => none
    | _ => none
  | _ => none
theorem srcA_ok (hG : GR G μ ρ H w) {x : AV} {x' : Value} (hx : VR μ ρ x x') {size : Nat} {l : List AV} (h : srcA H x size = some l) :
    ∃ (b o len cap' : Nat) (k cap esz : Nat) (cs : List Value), x = .sl k o len cap esz ∧ x' = .slice (some ⟨b, o, none⟩) len cap' ∧ cs.length = len * size ∧ l.length = len * size ∧ (∀ j v, cs[j]? = some v → w.cell? ((⟨b, o, none⟩ : Addr).add j) = some v) ∧ VRs μ ρ l cs := by
  unfold srcA at h
  split at h
  · rename_i k o len cap esz
    cases hx with
    | @sl _ _ _ _ _ b n cap' hb h1 h2 h3 =>
    split at h
    · rename_i c d m e hk
      split at h
      · rename_i hle
        cases h
        obtain ⟨cs, hl, hc, hr⟩ := cells_at hG hk hb o (len * size) (Nat.le_of_ble_eq_true hle)
        exact ⟨b, o, len, cap', k, cap, esz, cs, rfl, rfl, hl, cellsFrom_length _ _ _ _, fun j v hv => by rw [addr_add]; exact hc j v hv, hr⟩
      · cases h
    · cases h
  · cases h

/-- Nothing is appended. -/
noncomputable def isNone' (x : AV) : Bool :=
  match x with
  | .nils => true
  | .sl _ _ len _ _ => Nat.beq len 0
  | _ => false
noncomputable def appendA (P : Program) (H : Heap) (ats : List TypeId) (s x : AV) : Option (AV × Heap) :=
  match ats with
  | [t, u] => match Nat.beq t u with
    | true => match P.underlying t with
      | some (.slice e) => match P.info? e with
        | some ie => match isNone' x with
          | true => match s with
            | .nils => some (s, H)
            | .sl .. => some (s, H)
            | _ => none
          | false => match srcA H x ie.size with
            | some news => match allOne news with
              | true => match x with
                | .sl _ _ nx _ _ => match zeroA P e with
                  | some z => match Nat.beq z.cells.length ie.size with
                    | true => match s with
                      | .nils => match Nat.ble (Nat.mul nx ie.bytes) 1099511627776 with
                        | true => match Nat.ble nx 1099511627776 with
                          | true => some (.sl H.next 0 nx nx ie.size, H.add (blockOf news e))
                          | false => none
                        | false => none
                      | .sl k o len cap esz => match Nat.beq esz ie.size with
                        | true => match Nat.ble (Nat.add len nx) cap with
                          | true => match storeCellsA H k (Nat.add o (Nat.mul len esz)) news with
                            | some H' => some (.sl k o (Nat.add len nx) cap esz, H')
                            | none => none
                          | false => match Nat.beq o 0 with
                            | true => match H.tr.get k with
                              | some (.cells c d m e') => match Nat.beq e e' with
                                | true => match Nat.ble (Nat.mul len esz) m with
                                  | true => match Nat.ble (Nat.mul (Nat.add len nx) ie.bytes) 1099511627776 with
                                    | true => match Nat.ble (Nat.add len nx) 1099511627776 with
                                      | true => some (.sl H.next 0 (Nat.add len nx) (Nat.add len nx) esz, (H.kill k).add (.cells (ofList news (Nat.mul len esz) c) d (Nat.mul (Nat.add len nx) esz) e))
                                      | false => none
                                    | false => none
                                  | false => none
                                | false => none
                              | _ => none
                            | false => none
                        | false => none
                      | _ => none
                    | false => none
                  | none => none
                | _ => none
              | false => none
            | none => none
        | none => none
      | _ => none
    | false => none
  | _ => none
theorem grownCap_ge (w : World) (need old : Nat) (e : TypeId) : need ≤ grownCap w need old e := by
  unfold grownCap Question.cut; exact Nat.le_add_right _ _
theorem zeroCells_size (z : Array Value) (n : Nat) : (Builtin.zeroCells z n).size = n * z.size := by simp [Builtin.zeroCells]
theorem append_ok (hG : GR G μ ρ H w) {ats : Array TypeId} {ty : TypeId} {s x : AV} {s' x' : Value} (hs : VR μ ρ s s') (hx : VR μ ρ x x') {v : AV} {H' : Heap} (h : appendA P H ats.toList s x = some (v, H')) :
    ValOK P G μ ρ (Builtin.append_ ats ty #[s', x']) w v H' := by
  unfold appendA at h
  split at h
  · rename_i t u hats
    have hats' : ats = #[t, u] := Array.toList_inj.1 hats
    subst hats'
    split at h
    · rename_i htu
      have htu := Nat.eq_of_beq_eq_true htu
      subst htu
      split at h
      · rename_i e hu
        cases hie : P.info? e with
        | none => simp [hie] at h
        | some ie =>
          simp only [hie] at h
          split at h
          · -- nothing to append
            rename_i hn
            have hx0 : ∃ (a : Option Addr) (c : Nat), x' = .slice a 0 c := by
              unfold isNone' at hn
              split at hn
              · cases hx; exact ⟨none, 0, rfl⟩
              · cases hx with
                | sl _ _ _ _ =>
                have := Nat.eq_of_beq_eq_true hn
                subst this; exact ⟨_, _, rfl⟩
              · cases hn
            obtain ⟨ax, cx, rfl⟩ := hx0
            have hf : (Builtin.firstCells ie.size 0 (.slice ax 0 cx)).run P w = .ok #[] w := by
              cases ax <;> simp [Builtin.firstCells, loadCells, loadCellsFrom]
            have key : ∀ (a : Option Addr) (l c : Nat), l ≤ c → (Builtin.append_ #[t, t] ty #[.slice a l c, .slice ax 0 cx]).run P w = .ok (.slice a l c) w := fun a l c hlc => by
              cases a <;> simp [Builtin.append_, run_underlying hu, Go.sizeOf, typeInfo, hie, Builtin.lenOf, hlc, hf, storeCells]
            split at h
            · cases h; cases hs
              exact ValOK.pure hG (key _ _ _ (Nat.le_refl _)) .nils
            · cases h
              cases hs with
              | sl hb h1 h2 h3 => exact ValOK.pure hG (key _ _ _ (by omega)) (.sl hb h1 h2 h3)
            · cases h
          · split at h
            · rename_i news hsrc
              obtain ⟨bx, ox, nx', capx', kx, capx, eszx, cs, rfl, rfl, hcl, hnl, hcs, hvr⟩ := srcA_ok hG hx hsrc
              split at h
              · rename_i hone
                have hone' := allOne_ok hvr hone
                rename_i hnn _
                have hnx : 0 < nx' := by
                  rcases Nat.eq_zero_or_pos nx' with h0 | h0
                  · subst h0; exact absurd hnn (by simp [isNone'])
                  · exact h0
                cases hz : zeroA P e with
                | none => simp [hz] at h
                | some z =>
                  simp only [hz] at h
                  obtain ⟨i, z', hi, hz', hv⟩ := zeroA_ok (μ := μ) (ρ := ρ) hz
                  rw [hie] at hi; cases hi
                  split at h
                  · rename_i hzl
                    have hzl := Nat.eq_of_beq_eq_true hzl
                    have hzs := hv.cells.length
                    simp only [Array.length_toList] at hzs
                    split at h
                    · -- nil
                      cases hs
                      split at h
                      · rename_i b1
                        split at h
                        · rename_i b2
                          cases h
                          have b1 := Nat.le_of_ble_eq_true b1
                          have b2 := Nat.le_of_ble_eq_true b2
                          simp only [Nat.mul_eq] at b1
                          have hrun := run_append_nil (P := P) (w := w) t ty e ie z' hu hie hz' ⟨bx, ox, none⟩ nx' capx' cs hcl hcs hnx (by omega) (by omega)
                          have hgc := grownCap_ge w nx' 0 e
                          obtain ⟨gc, hgce⟩ : ∃ gc, gc = grownCap w nx' 0 e := ⟨_, rfl⟩
                          rw [← hgce] at hrun hgc
                          have ho : OR μ ρ (gc * ie.size) (.cells (cs.toArray ++ Builtin.zeroCells z'.cells (gc - nx')) e (0, 0)) (blockOf news e) := by
                            refine ⟨_, rfl, ?_, ?_, fun i hi => ?_⟩
                            · simp only [Array.size_append, List.size_toArray, zeroCells_size, hcl]
                              rw [show z'.cells.size = ie.size by omega, ← Nat.add_mul]; congr 1; omega
                            · rw [hnl]; exact Nat.mul_le_mul_right _ hgc
                            · rw [cget_ofList, dif_pos ⟨Nat.zero_le _, by simpa using hi⟩]
                              obtain ⟨v', h1, h2⟩ := hvr.get (List.getElem?_eq_getElem (show i < news.length from hi))
                              refine ⟨v', ?_, by simpa using h2⟩
                              rw [Array.getElem?_append_left (by simpa [hcl, ← hnl] using hi)]
                              simpa using h1
                          obtain ⟨g1, g2, g3⟩ := hG.drew.alloc ho
                          refine ⟨_, _, _, hrun, g2, .sl (Mu.upd_self _ _ _) hgc (by simp) (Nat.le_refl _), g1, (Fr.drew G w).trans g3⟩
                        · cases h
                      · cases h
                    · -- a slice
                      rename_i k o len cap esz
                      cases hs with
                      | @sl _ _ _ _ _ b n cap' hb c1 c2 c3 =>
                      split at h
                      · rename_i hes
                        have hes := Nat.eq_of_beq_eq_true hes
                        subst hes
                        split at h
                        · -- there is room for sure
                          rename_i hroom
                          have hroom := Nat.le_of_ble_eq_true hroom
                          simp only [Nat.add_eq] at hroom
                          split at h
                          · rename_i H2 hst
                            cases h
                            obtain ⟨w', q1, q2, q3⟩ := storeCellsA_ok (P := P) hb news cs H w (o + len * ie.size) 0 ⟨b, o + len * ie.size, none⟩ _ hG hvr hst rfl rfl (Nat.zero_le _)
                            refine ⟨.slice (some ⟨b, o, none⟩) (len + nx') cap', w', μ, ?_, Mu.le_refl _, .sl hb c1 c2 hroom, q2, q3⟩
                            have hf := run_firstCells_some (P := P) w ie.size nx' ⟨bx, ox, none⟩ nx' capx' cs hcl hcs
                            have hroom' : len + nx' ≤ cap' := by omega
                            simp [Builtin.append_, run_underlying hu, Go.sizeOf, typeInfo, hie, Builtin.lenOf, hroom', hf, addr_add, q1]
                          · cases h
                        · rename_i hroom
                          have hroom : ¬ (len + nx' ≤ cap) := fun hc => by
                            have e1 : Nat.ble (Nat.add len nx') cap = true := by rw [Nat.ble_eq]; exact hc
                            rw [e1] at hroom; cases hroom
                          split at h
                          · rename_i ho0
                            have ho0 := Nat.eq_of_beq_eq_true ho0
                            subst ho0
                            split at h
                            · rename_i c d m e' hk
                              split at h
                              · rename_i hee
                                have hee := Nat.eq_of_beq_eq_true hee
                                subst hee
                                split at h
                                · rename_i hm
                                  have hm := Nat.le_of_ble_eq_true hm
                                  split at h
                                  · rename_i b1
                                    split at h
                                    · rename_i b2
                                      cases h
                                      have b1 := Nat.le_of_ble_eq_true b1
                                      have b2 := Nat.le_of_ble_eq_true b2
                                      simp only [Nat.mul_eq, Nat.add_eq] at b1 b2 hm
                                      obtain ⟨b1', n1, x1, e1, _, e3, arr, hxe, e4, e5, e6⟩ := hG.obj k _ hk
                                      rw [hb] at e1; cases e1
                                      subst hxe
                                      -- the new cells, whatever lies behind them
                                      have newOK : ∀ (a2 : Array Value), (∀ i, i < len * ie.size → a2[i]? = arr[i]?) → (∀ i, i < nx' * ie.size → a2[len * ie.size + i]? = cs[i]?) →
                                          ∀ i, i < (len + nx') * ie.size → ∃ v', a2[i]? = some v' ∧ VR μ ρ (cget (ofList news (len * ie.size) c) d i) v' := fun a2 h1 h2 i hi => by
                                        rw [Nat.add_mul] at hi
                                        by_cases hil : i < len * ie.size
                                        · obtain ⟨v', q1, q2⟩ := e6 i (by omega)
                                          rw [cget_ofList, dif_neg (by omega), h1 i hil]
                                          exact ⟨v', q1, q2⟩
                                        · have hb2 : i - len * ie.size < news.length := by omega
                                          rw [cget_ofList, dif_pos ⟨by omega, hb2⟩]
                                          obtain ⟨v', q1, q2⟩ := hvr.get (List.getElem?_eq_getElem hb2)
                                          have := h2 (i - len * ie.size) (by omega)
                                          rw [show len * ie.size + (i - len * ie.size) = i by omega] at this
                                          exact ⟨v', this.trans q1, q2⟩
                                      by_cases hcap : len + nx' ≤ cap'
                                      · -- there was room
                                        have hfit : len * ie.size + cs.length ≤ arr.size := by
                                          rw [hcl, e4, ← Nat.add_mul]
                                          have : (len + nx') * ie.size ≤ cap' * ie.size := Nat.mul_le_mul_right _ hcap
                                          omega
                                        have hrun := run_append_room (P := P) (w := w) t ty e ie hu hie b len cap' arr e3 ⟨bx, ox, none⟩ nx' capx' cs hcl hcs hone' hcap hfit
                                        obtain ⟨A, hA⟩ : ∃ A, A = (arr.toList.take (len * ie.size) ++ cs ++ arr.toList.drop (len * ie.size + cs.length)).toArray := ⟨_, rfl⟩
                                        rw [← hA] at hrun
                                        have hAs : A.size = n := by rw [hA]; simp; omega
                                        have hA1 : ∀ i, i < len * ie.size → A[i]? = arr[i]? := fun i hi => by
                                          rw [hA]; simp only [List.getElem?_toArray]
                                          rw [List.append_assoc, List.getElem?_append_left (by simp; omega), List.getElem?_take, if_pos hi]; simp
                                        have hA2 : ∀ i, i < nx' * ie.size → A[len * ie.size + i]? = cs[i]? := fun i hi => by
                                          rw [hA]; simp only [List.getElem?_toArray]
                                          rw [List.append_assoc, List.getElem?_append_right (by simp; omega), List.getElem?_append_left (by simp; omega)]
                                          congr 1; simp; omega
                                        have ho : OR μ ρ n (.cells A e (0, 0)) (.cells (ofList news (len * ie.size) c) d ((len + nx') * ie.size) e) :=
                                          ⟨A, rfl, hAs, by rw [← e4, Nat.add_mul]; omega, newOK A hA1 hA2⟩
                                        obtain ⟨g1, g2, g3⟩ := hG.move (w' := w.setRow b A) hk hb (fun b' hne => setRow_other _ _ _ _ hne) (setRow_heap w b arr A e (0, 0) e3) (by simp) ho rfl rfl rfl
                                        exact ⟨_, _, _, hrun, g2, .sl (Mu.upd_self _ _ _) hcap (by simpa using c2) (Nat.le_refl _), g1, g3⟩
                                      · -- there was none
                                        have holds : ∃ olds : List Value, olds.length = len * ie.size ∧ (∀ j v, olds[j]? = some v → w.cell? ((⟨b, 0, none⟩ : Addr).add j) = some v) ∧ ∀ i, i < len * ie.size → olds[i]? = arr[i]? := by
                                          refine ⟨arr.toList.take (len * ie.size), by simp; omega, fun j v hj => ?_, fun i hi => ?_⟩
                                          · rw [addr_add]
                                            rw [List.getElem?_take] at hj
                                            split at hj
                                            · simp [World.cell?, e3]; simpa using hj
                                            · cases hj
                                          · rw [List.getElem?_take, if_pos hi]; simp
                                        obtain ⟨olds, hol, hoc, hoa⟩ := holds
                                        have hfits := growslice_fits (need := len + nx') (old := cap') (bytes := ie.bytes) (by omega) (by omega)
                                        have hrun := run_append_grow (P := P) (w := w) t ty e ie z' hu hie hz' ⟨b, 0, none⟩ len cap' olds hol hoc ⟨bx, ox, none⟩ nx' capx' cs hcl hcs (by omega) (by omega) hfits
                                        have hgc := grownCap_ge w (len + nx') cap' e
                                        obtain ⟨gc, hgce⟩ : ∃ gc, gc = grownCap w (len + nx') cap' e := ⟨_, rfl⟩
                                        rw [← hgce] at hrun hgc
                                        obtain ⟨A, hA⟩ : ∃ A, A = olds.toArray ++ cs.toArray ++ Builtin.zeroCells z'.cells (gc - (len + nx')) := ⟨_, rfl⟩
                                        rw [← hA] at hrun
                                        have hAs : A.size = gc * ie.size := by
                                          rw [hA]; simp only [Array.size_append, List.size_toArray, zeroCells_size, hol, hcl]
                                          rw [show z'.cells.size = ie.size by omega, ← Nat.add_mul, ← Nat.add_mul]; congr 1; omega
                                        have hA1 : ∀ i, i < len * ie.size → A[i]? = arr[i]? := fun i hi => by
                                          rw [hA, Array.append_assoc, Array.getElem?_append_left (by simp; omega), ← hoa i hi]; simp
                                        have hA2 : ∀ i, i < nx' * ie.size → A[len * ie.size + i]? = cs[i]? := fun i hi => by
                                          rw [hA, Array.append_assoc, Array.getElem?_append_right (by simp; omega), Array.getElem?_append_left (by simp; omega)]
                                          simp [hol]
                                        have ho : OR μ ρ (gc * ie.size) (.cells A e (0, 0)) (.cells (ofList news (len * ie.size) c) d ((len + nx') * ie.size) e) :=
                                          ⟨A, rfl, hAs, Nat.mul_le_mul_right _ hgc, newOK A hA1 hA2⟩
                                        obtain ⟨g1, g2, g3⟩ := (hG.drew.kill k).alloc ho
                                        exact ⟨_, _, _, hrun, g2, .sl (Mu.upd_self _ _ _) hgc (by simp) (Nat.le_refl _), g1, (Fr.drew G w).trans g3⟩
                                    · cases h
                                  · cases h
                                · cases h
                              · cases h
                            · cases h
                          · cases h
                      · cases h
                    · cases h
                  · cases h
              · cases h
            · cases h
      · cases h
    · cases h
  · cases h

/-- append(nil, make([]E, n)...) -/
noncomputable def appendZ (P : Program) (H : Heap) (ats : List TypeId) (s x : AV) : Option (AV × Heap) :=
  match ats with
  | [t, u] => match s with
    | .nils => match natOf x with
      | some n => match Nat.ble 1 n with
        | true => match Nat.ble n 1048576 with
          | true => match P.underlying t with
            | some (.slice e) => match P.underlying u with
              | some (.int _) => match P.info? e with
                | some ie => match Nat.ble ie.bytes 1024 with
                  | true => match zeroA P e with
                    | some z => match Nat.beq z.cells.length ie.size with
                      | true => match Nat.ble 1 ie.size with
                        | true => some (.sl H.next 0 n n ie.size, H.add (blockOf (repA z.cells n) e))
                        | false => none
                      | false => none
                    | none => none
                  | false => none
                | none => none
              | _ => none
            | _ => none
          | false => none
        | false => none
      | none => none
    | _ => none
  | _ => none
theorem zeroCells_list (z : Array Value) (n : Nat) (hz : 0 < z.size) : (Builtin.zeroCells z n).toList = repA z.toList n := by
  unfold Builtin.zeroCells; exact rep_arr z n hz
theorem appendZ_ok (hG : GR G μ ρ H w) {ats : Array TypeId} {ty : TypeId} {s x : AV} {s' x' : Value} (hs : VR μ ρ s s') (hx : VR μ ρ x x') {v : AV} {H' : Heap} (h : appendZ P H ats.toList s x = some (v, H')) :
    ValOK P G μ ρ (Builtin.append_ ats ty #[s', x']) w v H' := by
  unfold appendZ at h
  split at h
  · rename_i t u hats
    have hats' : ats = #[t, u] := Array.toList_inj.1 hats
    subst hats'
    split at h
    · cases hs
      split at h
      · rename_i n hn
        obtain ⟨k, rfl⟩ := natOf_ok hx hn
        split at h
        · rename_i b1
          split at h
          · rename_i b2
            have b1 := Nat.le_of_ble_eq_true b1
            have b2 := Nat.le_of_ble_eq_true b2
            split at h
            · rename_i e hu
              split at h
              · rename_i ik hui
                cases hie : P.info? e with
                | none => simp [hie] at h
                | some ie =>
                  simp only [hie] at h
                  split at h
                  · rename_i b3
                    have b3 := Nat.le_of_ble_eq_true b3
                    cases hz : zeroA P e with
                    | none => simp [hz] at h
                    | some z =>
                      simp only [hz] at h
                      obtain ⟨i, z', hi, hz', hv⟩ := zeroA_ok (μ := μ) (ρ := ρ) hz
                      rw [hie] at hi; cases hi
                      split at h
                      · rename_i hzl
                        have hzl := Nat.eq_of_beq_eq_true hzl
                        have hzs := hv.cells.length
                        simp only [Array.length_toList] at hzs
                        split at h
                        · rename_i hs1
                          have hs1 := Nat.le_of_ble_eq_true hs1
                          cases h
                          have hbytes : n * ie.bytes ≤ 1073741824 := by
                            have : n * ie.bytes ≤ 1048576 * 1024 := Nat.mul_le_mul b2 b3
                            omega
                          have hgc := grownCap_ge w n 0 e
                          obtain ⟨gc, hgce⟩ : ∃ gc, gc = grownCap w n 0 e := ⟨_, rfl⟩
                          rw [← hgce] at hgc
                          have hw : IntKind.i64.wrap (n : Int) = n := IntWalk.i64_in _ ⟨by omega, by omega⟩
                          have hb' : ¬ ((n : Int) * (ie.bytes : Int) > 281474976710656) := by
                            have : ((n * ie.bytes : Nat) : Int) ≤ 1073741824 := by omega
                            rw [Int.natCast_mul] at this; omega
                          have hb'' : ¬ (281474976710656 < (n : Int) * (ie.bytes : Int)) := by omega
                          have hnn : ¬ ((n : Int) < 0) := by omega
                          have hn0 : n ≠ 0 := by omega
                          have h63 : ¬ (9223372036854775807 < (n : Int)) := by omega
                          have h48 : ¬ (281474976710656 < Builtin.nextslicecap n 0 * ie.bytes) := by rw [nextslicecap_zero (by omega)]; omega
                          have hsz0 : ¬ (n * ie.size = 0) := by
                            intro hc
                            rcases Nat.mul_eq_zero.1 hc with h | h <;> omega
                          have hrun : (Builtin.append_ #[t, u] ty #[.slice none 0 0, .int k (n : Int)]).run P w =
                              .ok (.slice (some ⟨w.heap.size, 0, none⟩) n gc) (w.drew.alloc (.cells (Builtin.zeroCells z'.cells n ++ Builtin.zeroCells z'.cells (gc - n)) e (0, 0))) := by
                            rw [hgce]
                            simp [Builtin.append_, run_underlying hu, run_underlying hui, Go.sizeOf, typeInfo, zeroValue, hie, hz', asInt, asIntOf, hw, hnn, hb'', hn0, h63, h48, Question.forced, run_firstCells_none, newRow, grownCap]
                            intro hc; exact absurd hc hsz0
                          have ho : OR μ ρ (gc * ie.size) (.cells (Builtin.zeroCells z'.cells n ++ Builtin.zeroCells z'.cells (gc - n)) e (0, 0)) (blockOf (repA z.cells n) e) := by
                            refine ⟨_, rfl, ?_, ?_, fun i hi => ?_⟩
                            · simp only [Array.size_append, zeroCells_size]
                              rw [show z'.cells.size = ie.size by omega, ← Nat.add_mul]; congr 1; omega
                            · rw [repA_length, hzl]; exact Nat.mul_le_mul_right _ hgc
                            · rw [cget_ofList, dif_pos ⟨Nat.zero_le _, by simpa using hi⟩]
                              have hr := VRs.rep hv.cells n
                              rw [← zeroCells_list z'.cells n (by omega)] at hr
                              obtain ⟨v', h1, h2⟩ := hr.get (List.getElem?_eq_getElem (show i < (repA z.cells n).length from hi))
                              refine ⟨v', ?_, by simpa using h2⟩
                              have hlt : i < (Builtin.zeroCells z'.cells n).size := by
                                rw [zeroCells_size, ← hzs, hzl]; rw [repA_length, hzl] at hi; exact hi
                              rw [Array.getElem?_append_left hlt]
                              simpa using h1
                          obtain ⟨g1, g2, g3⟩ := hG.drew.alloc ho
                          exact ⟨_, _, _, hrun, g2, .sl (Mu.upd_self _ _ _) hgc (by simp) (Nat.le_refl _), g1, (Fr.drew G w).trans g3⟩
                        · cases h
                      · cases h
                  · cases h
              · cases h
            · cases h
          · cases h
        · cases h
      · cases h
    · cases h
  · cases h
/-- Either append. -/
noncomputable def appendB (P : Program) (H : Heap) (ats : List TypeId) (s x : AV) : Option (AV × Heap) :=
  match appendA P H ats s x with
  | some r => some r
  | none => appendZ P H ats s x
theorem appendB_ok (hG : GR G μ ρ H w) {ats : Array TypeId} {ty : TypeId} {s x : AV} {s' x' : Value} (hs : VR μ ρ s s') (hx : VR μ ρ x x') {v : AV} {H' : Heap} (h : appendB P H ats.toList s x = some (v, H')) :
    ValOK P G μ ρ (Builtin.append_ ats ty #[s', x']) w v H' := by
  unfold appendB at h
  split at h
  · rename_i r hr; cases h; exact append_ok hG hs hx hr
  · exact appendZ_ok hG hs hx h
/-- The capacity, where it is known. -/
noncomputable def capA (P : Program) (t : TypeId) (x : AV) : Option AV :=
  match P.underlying t with
  | some (.slice _) => match x with
    | .nils => some (.int .i64 (.lit (Int.ofNat 0)))
    | _ => none
  | _ => none
theorem cap_ok (hG : GR G μ ρ H w) {ats : Array TypeId} {ty t : TypeId} (ht : ats[0]? = some t) {x : AV} {x' : Value} (hx : VR μ ρ x x') {v : AV} (h : capA P t x = some v) : ValOK P G μ ρ (Builtin.cap_ ats ty #[x']) w v H := by
  unfold capA at h
  split at h
  · rename_i e hu
    split at h
    · cases h; cases hx
      exact ValOK.pure hG (by simp [Builtin.cap_, ht, run_underlying hu]; rfl) (.int rfl)
    · cases h
  · cases h

/-! ### len -/
noncomputable def lenA (P : Program) (t : TypeId) (x : AV) : Option AV :=
  match P.underlying t with
  | some .string => match x with
    | .str s => some (.int .i64 (.lit (Int.ofNat s.size)))
    | _ => none
  | some (.array n _) => some (.int .i64 (.lit (Int.ofNat n)))
  | some (.slice _) => match x with
    | .sl _ _ len _ _ => some (.int .i64 (.lit (Int.ofNat len)))
    | .nils => some (.int .i64 (.lit (Int.ofNat 0)))
    | _ => none
  | _ => none
theorem len_ok (hG : GR G μ ρ H w) {ats : Array TypeId} {ty t : TypeId} (ht : ats[0]? = some t) {x : AV} {x' : Value} (hx : VR μ ρ x x') {v : AV} (h : lenA P t x = some v) : ValOK P G μ ρ (Builtin.len_ ats ty #[x']) w v H := by
  unfold lenA at h
  split at h
  · rename_i hu
    split at h
    · cases h; cases hx
      exact ValOK.pure hG (by simp [Builtin.len_, ht, run_underlying hu]; rfl) (.int rfl)
    · cases h
  · rename_i n e hu
    cases h
    exact ValOK.pure hG (by simp [Builtin.len_, ht, run_underlying hu]; rfl) (.int rfl)
  · rename_i e hu
    split at h
    · cases h; cases hx
      exact ValOK.pure hG (by simp [Builtin.len_, ht, run_underlying hu]; rfl) (.int rfl)
    · cases h; cases hx
      exact ValOK.pure hG (by simp [Builtin.len_, ht, run_underlying hu]; rfl) (.int rfl)
    · cases h
  · cases h
end
end Vx
