/-
  The evaluator: append, strings, operators, maps, structs.
-/
import Derived.Test.YtgccmnnenhncpaaGreatDoorVmA
import Derived.Lib.UnsafeStr
import Derived.Lib.MakeNoZero
import Derived.Laws.BytesString
import Derived.Laws.Externs
import Derived.Laws.StructEq
import Derived.Laws.Cover3
import Derived.Laws.Pointers
import Derived.Lib.Builder
import Derived.MapKept
/-! append, copy, len. -/
namespace Vx
open Go
section
variable {P : Program} {G : Gd} {μ : Mu} {ρ : Env} {H : Heap} {w : World}

noncomputable def allOne : List AV → Bool
  | [] => true
  | v :: r => match v.one with
    | true => allOne r
    | false => false
theorem allOne_ok : ∀ {l : List AV} {l' : List Value}, VRs μ ρ l l' → allOne l = true → ∀ v ∈ l', v.oneCell' = true
  | [], _, .nil, _, v, hv => by simp at hv
  | x :: r, _, .cons h hs, ho, v, hv => by
    simp only [allOne] at ho
    split at ho
    · rename_i h1
      rcases List.mem_cons.1 hv with rfl | hv
      · exact h.one h1
      · exact allOne_ok hs ho v hv
    · cases ho

/-- The cells of a slice, of n elements. -/
noncomputable def srcA (H : Heap) (x : AV) (size : Nat) : Option (List AV) :=
  match x with
  | .sl k o len _ _ => match H.tr.get k with
    | some (.cells c d m _) => match Nat.ble (Nat.add o (Nat.mul len size)) m with
      | true => some (cellsFrom c d o (Nat.mul len size))
      | false => none
    | _ => none
  | _ => none
theorem srcA_ok (hG : GR G μ ρ H w) {x : AV} {x' : Value} (hx : VR μ ρ x x') {size : Nat} {l : List AV} (h : srcA H x size = some l) :
    ∃ (b o len cap' : Nat) (k cap esz : Nat) (cs : List Value), x = .sl k o len cap esz ∧ x' = .slice (some ⟨b, o, none⟩) len cap' ∧ cs.length = len * size ∧ l.length = len * size ∧ (∀ j v, cs[j]? = some v → w.cell? ((⟨b, o, none⟩ : Addr).add j) = some v) ∧ VRs μ ρ l cs := by
  unfold srcA at h
  split at h
  · rename_i k o len cap esz
    cases hx with
    | @sl _ _ _ _ _ b n cap' hb h1 h2 h3 =>
    split at h
    · rename_i c d m e hk
      split at h
      · rename_i hle
        cases h
        obtain ⟨cs, hl, hc, hr⟩ := cells_at hG hk hb o (len * size) (Nat.le_of_ble_eq_true hle)
        exact ⟨b, o, len, cap', k, cap, esz, cs, rfl, rfl, hl, cellsFrom_length _ _ _ _, fun j v hv => by rw [addr_add]; exact hc j v hv, hr⟩
      · cases h
    · cases h
  · cases h

/-- Nothing is appended. -/
noncomputable def isNone' (x : AV) : Bool :=
  match x with
  | .nils => true
  | .sl _ _ len _ _ => Nat.beq len 0
  | _ => false
noncomputable def appendA (P : Program) (H : Heap) (ats : List TypeId) (s x : AV) : Option (AV × Heap) :=
  match ats with
  | [t, u] => match Nat.beq t u with
    | true => match undT P t with
      | some (.slice e) => match infoT P e with
        | some ie => match isNone' x with
          | true => match s with
            | .nils => some (s, H)
            | .sl .. => some (s, H)
            | _ => none
          | false => match srcA H x ie.size with
            | some news => match allOne news with
              | true => match x with
                | .sl _ _ nx _ _ => match zeroA P e with
                  | some z => match Nat.beq z.cells.length ie.size with
                    | true => match s with
                      | .nils => match Nat.ble (Nat.mul nx ie.bytes) 1099511627776 with
                        | true => match Nat.ble nx 1099511627776 with
                          | true => some (.sl H.next 0 nx nx ie.size, H.add (blockOf news e))
                          | false => none
                        | false => none
                      | .sl k o len cap esz => match Nat.beq esz ie.size with
                        | true => match Nat.ble (Nat.add len nx) cap with
                          | true => match storeCellsA H k (Nat.add o (Nat.mul len esz)) news with
                            | some H' => some (.sl k o (Nat.add len nx) cap esz, H')
                            | none => none
                          | false => match Nat.beq o 0 with
                            | true => match H.tr.get k with
                              | some (.cells c d m e') => match Nat.beq e e' with
                                | true => match Nat.ble (Nat.mul len esz) m with
                                  | true => match Nat.ble (Nat.mul (Nat.add len nx) ie.bytes) 1099511627776 with
                                    | true => match Nat.ble (Nat.add len nx) 1099511627776 with
                                      | true => some (.sl H.next 0 (Nat.add len nx) (Nat.add len nx) esz, (H.kill k).add (.cells (ofList news (Nat.mul len esz) c) d (Nat.mul (Nat.add len nx) esz) e))
                                      | false => none
                                    | false => none
                                  | false => none
                                | false => none
                              | _ => none
                            | false => none
                        | false => none
                      | _ => none
                    | false => none
                  | none => none
                | _ => none
              | false => none
            | none => none
        | none => none
      | _ => none
    | false => none
  | _ => none
theorem grownCap_ge (w : World) (need old : Nat) (e : TypeId) : need ≤ grownCap w need old e := by
  unfold grownCap Question.cut; exact Nat.le_add_right _ _
theorem zeroCells_size (z : Array Value) (n : Nat) : (Builtin.zeroCells z n).size = n * z.size := by simp [Builtin.zeroCells]
theorem append_ok (hG : GR G μ ρ H w) {ats : Array TypeId} {ty : TypeId} {s x : AV} {s' x' : Value} (hs : VR μ ρ s s') (hx : VR μ ρ x x') {v : AV} {H' : Heap} (h : appendA P H ats.toList s x = some (v, H')) :
    ValOK P G μ ρ (Builtin.append_ ats ty #[s', x']) w v H' := by
  unfold appendA at h
  simp only [infoT_eq, undT_eq] at h
  split at h
  · rename_i t u hats
    have hats' : ats = #[t, u] := Array.toList_inj.1 hats
    subst hats'
    split at h
    · rename_i htu
      have htu := Nat.eq_of_beq_eq_true htu
      subst htu
      split at h
      · rename_i e hu
        cases hie : P.info? e with
        | none => simp [hie] at h
        | some ie =>
          simp only [hie] at h
          split at h
          · -- nothing to append
            rename_i hn
            have hx0 : ∃ (a : Option Addr) (c : Nat), x' = .slice a 0 c := by
              unfold isNone' at hn
              split at hn
              · cases hx; exact ⟨none, 0, rfl⟩
              · cases hx with
                | sl _ _ _ _ =>
                have := Nat.eq_of_beq_eq_true hn
                subst this; exact ⟨_, _, rfl⟩
              · cases hn
            obtain ⟨ax, cx, rfl⟩ := hx0
            have hf : (Builtin.firstCells ie.size 0 (.slice ax 0 cx)).run P w = .ok #[] w := by
              cases ax <;> simp [Builtin.firstCells, loadCells, loadCellsFrom]
            have key : ∀ (a : Option Addr) (l c : Nat), l ≤ c → (Builtin.append_ #[t, t] ty #[.slice a l c, .slice ax 0 cx]).run P w = .ok (.slice a l c) w := fun a l c hlc => by
              cases a <;> simp [Builtin.append_, run_underlying hu, Go.sizeOf, typeInfo, hie, Builtin.lenOf, hlc, hf, storeCells]
            split at h
            · cases h; cases hs
              exact ValOK.pure hG (key _ _ _ (Nat.le_refl _)) .nils
            · cases h
              cases hs with
              | sl hb h1 h2 h3 => exact ValOK.pure hG (key _ _ _ (by omega)) (.sl hb h1 h2 h3)
            · cases h
          · split at h
            · rename_i news hsrc
              obtain ⟨bx, ox, nx', capx', kx, capx, eszx, cs, rfl, rfl, hcl, hnl, hcs, hvr⟩ := srcA_ok hG hx hsrc
              split at h
              · rename_i hone
                have hone' := allOne_ok hvr hone
                rename_i hnn _
                have hnx : 0 < nx' := by
                  rcases Nat.eq_zero_or_pos nx' with h0 | h0
                  · subst h0; exact absurd hnn (by simp [isNone'])
                  · exact h0
                cases hz : zeroA P e with
                | none => simp [hz] at h
                | some z =>
                  simp only [hz] at h
                  obtain ⟨i, z', hi, hz', hv⟩ := zeroA_ok (μ := μ) (ρ := ρ) hz
                  rw [hie] at hi; cases hi
                  split at h
                  · rename_i hzl
                    have hzl := Nat.eq_of_beq_eq_true hzl
                    have hzs := hv.cells.length
                    simp only [Array.length_toList] at hzs
                    split at h
                    · -- nil
                      cases hs
                      split at h
                      · rename_i b1
                        split at h
                        · rename_i b2
                          cases h
                          have b1 := Nat.le_of_ble_eq_true b1
                          have b2 := Nat.le_of_ble_eq_true b2
                          simp only [Nat.mul_eq] at b1
                          have hrun := run_append_nil (P := P) (w := w) t ty e ie z' hu hie hz' ⟨bx, ox, none⟩ nx' capx' cs hcl hcs hnx (by omega) (by omega)
                          have hgc := grownCap_ge w nx' 0 e
                          obtain ⟨gc, hgce⟩ : ∃ gc, gc = grownCap w nx' 0 e := ⟨_, rfl⟩
                          rw [← hgce] at hrun hgc
                          have ho : OR μ ρ (gc * ie.size) (.cells (cs.toArray ++ Builtin.zeroCells z'.cells (gc - nx')) e (0, 0)) (blockOf news e) := by
                            refine ⟨_, rfl, ?_, ?_, fun i hi => ?_⟩
                            · simp only [Array.size_append, List.size_toArray, zeroCells_size, hcl]
                              rw [show z'.cells.size = ie.size by omega, ← Nat.add_mul]; congr 1; omega
                            · rw [hnl]; exact Nat.mul_le_mul_right _ hgc
                            · rw [cget_ofList, dif_pos ⟨Nat.zero_le _, by simpa using hi⟩]
                              obtain ⟨v', h1, h2⟩ := hvr.get (List.getElem?_eq_getElem (show i < news.length from hi))
                              refine ⟨v', ?_, by simpa using h2⟩
                              rw [Array.getElem?_append_left (by simpa [hcl, ← hnl] using hi)]
                              simpa using h1
                          obtain ⟨g1, g2, g3⟩ := hG.drew.alloc ho
                          refine ⟨_, _, _, hrun, g2, .sl (Mu.upd_self _ _ _) hgc (by simp) (Nat.le_refl _), g1, (Fr.drew G w).trans g3⟩
                        · cases h
                      · cases h
                    · -- a slice
                      rename_i k o len cap esz
                      cases hs with
                      | @sl _ _ _ _ _ b n cap' hb c1 c2 c3 =>
                      split at h
                      · rename_i hes
                        have hes := Nat.eq_of_beq_eq_true hes
                        subst hes
                        split at h
                        · -- there is room for sure
                          rename_i hroom
                          have hroom := Nat.le_of_ble_eq_true hroom
                          simp only [Nat.add_eq] at hroom
                          split at h
                          · rename_i H2 hst
                            cases h
                            obtain ⟨w', q1, q2, q3⟩ := storeCellsA_ok (P := P) hb news cs H w (o + len * ie.size) 0 ⟨b, o + len * ie.size, none⟩ _ hG hvr hst rfl rfl (Nat.zero_le _)
                            refine ⟨.slice (some ⟨b, o, none⟩) (len + nx') cap', w', μ, ?_, Mu.le_refl _, .sl hb c1 c2 hroom, q2, q3⟩
                            have hf := run_firstCells_some (P := P) w ie.size nx' ⟨bx, ox, none⟩ nx' capx' cs hcl hcs
                            have hroom' : len + nx' ≤ cap' := by omega
                            simp [Builtin.append_, run_underlying hu, Go.sizeOf, typeInfo, hie, Builtin.lenOf, hroom', hf, addr_add, q1]
                          · cases h
                        · rename_i hroom
                          have hroom : ¬ (len + nx' ≤ cap) := fun hc => by
                            have e1 : Nat.ble (Nat.add len nx') cap = true := by rw [Nat.ble_eq]; exact hc
                            rw [e1] at hroom; cases hroom
                          split at h
                          · rename_i ho0
                            have ho0 := Nat.eq_of_beq_eq_true ho0
                            subst ho0
                            split at h
                            · rename_i c d m e' hk
                              split at h
                              · rename_i hee
                                have hee := Nat.eq_of_beq_eq_true hee
                                subst hee
                                split at h
                                · rename_i hm
                                  have hm := Nat.le_of_ble_eq_true hm
                                  split at h
                                  · rename_i b1
                                    split at h
                                    · rename_i b2
                                      cases h
                                      have b1 := Nat.le_of_ble_eq_true b1
                                      have b2 := Nat.le_of_ble_eq_true b2
                                      simp only [Nat.mul_eq, Nat.add_eq] at b1 b2 hm
                                      obtain ⟨b1', n1, x1, e1, _, e3, arr, hxe, e4, e5, e6⟩ := hG.obj k _ hk
                                      rw [hb] at e1; cases e1
                                      subst hxe
                                      -- the new cells, whatever lies behind them
                                      have newOK : ∀ (a2 : Array Value), (∀ i, i < len * ie.size → a2[i]? = arr[i]?) → (∀ i, i < nx' * ie.size → a2[len * ie.size + i]? = cs[i]?) →
                                          ∀ i, i < (len + nx') * ie.size → ∃ v', a2[i]? = some v' ∧ VR μ ρ (cget (ofList news (len * ie.size) c) d i) v' := fun a2 h1 h2 i hi => by
                                        rw [Nat.add_mul] at hi
                                        by_cases hil : i < len * ie.size
                                        · obtain ⟨v', q1, q2⟩ := e6 i (by omega)
                                          rw [cget_ofList, dif_neg (by omega), h1 i hil]
                                          exact ⟨v', q1, q2⟩
                                        · have hb2 : i - len * ie.size < news.length := by omega
                                          rw [cget_ofList, dif_pos ⟨by omega, hb2⟩]
                                          obtain ⟨v', q1, q2⟩ := hvr.get (List.getElem?_eq_getElem hb2)
                                          have := h2 (i - len * ie.size) (by omega)
                                          rw [show len * ie.size + (i - len * ie.size) = i by omega] at this
                                          exact ⟨v', this.trans q1, q2⟩
                                      by_cases hcap : len + nx' ≤ cap'
                                      · -- there was room
                                        have hfit : len * ie.size + cs.length ≤ arr.size := by
                                          rw [hcl, e4, ← Nat.add_mul]
                                          have : (len + nx') * ie.size ≤ cap' * ie.size := Nat.mul_le_mul_right _ hcap
                                          omega
                                        have hrun := run_append_room (P := P) (w := w) t ty e ie hu hie b len cap' arr e3 ⟨bx, ox, none⟩ nx' capx' cs hcl hcs hone' hcap hfit
                                        obtain ⟨A, hA⟩ : ∃ A, A = (arr.toList.take (len * ie.size) ++ cs ++ arr.toList.drop (len * ie.size + cs.length)).toArray := ⟨_, rfl⟩
                                        rw [← hA] at hrun
                                        have hAs : A.size = n := by rw [hA]; simp; omega
                                        have hA1 : ∀ i, i < len * ie.size → A[i]? = arr[i]? := fun i hi => by
                                          rw [hA]; simp only [List.getElem?_toArray]
                                          rw [List.append_assoc, List.getElem?_append_left (by simp; omega), List.getElem?_take, if_pos hi]; simp
                                        have hA2 : ∀ i, i < nx' * ie.size → A[len * ie.size + i]? = cs[i]? := fun i hi => by
                                          rw [hA]; simp only [List.getElem?_toArray]
                                          rw [List.append_assoc, List.getElem?_append_right (by simp; omega), List.getElem?_append_left (by simp; omega)]
                                          congr 1; simp; omega
                                        have ho : OR μ ρ n (.cells A e (0, 0)) (.cells (ofList news (len * ie.size) c) d ((len + nx') * ie.size) e) :=
                                          ⟨A, rfl, hAs, by rw [← e4, Nat.add_mul]; omega, newOK A hA1 hA2⟩
                                        obtain ⟨g1, g2, g3⟩ := hG.move (w' := w.setRow b A) hk hb (fun b' hne => setRow_other _ _ _ _ hne) (setRow_heap w b arr A e (0, 0) e3) (by simp) ho rfl rfl rfl
                                        exact ⟨_, _, _, hrun, g2, .sl (Mu.upd_self _ _ _) hcap (by simpa using c2) (Nat.le_refl _), g1, g3⟩
                                      · -- there was none
                                        have holds : ∃ olds : List Value, olds.length = len * ie.size ∧ (∀ j v, olds[j]? = some v → w.cell? ((⟨b, 0, none⟩ : Addr).add j) = some v) ∧ ∀ i, i < len * ie.size → olds[i]? = arr[i]? := by
                                          refine ⟨arr.toList.take (len * ie.size), by simp; omega, fun j v hj => ?_, fun i hi => ?_⟩
                                          · rw [addr_add]
                                            rw [List.getElem?_take] at hj
                                            split at hj
                                            · simp [World.cell?, e3]; simpa using hj
                                            · cases hj
                                          · rw [List.getElem?_take, if_pos hi]; simp
                                        obtain ⟨olds, hol, hoc, hoa⟩ := holds
                                        have hfits := growslice_fits (need := len + nx') (old := cap') (bytes := ie.bytes) (by omega) (by omega)
                                        have hrun := run_append_grow (P := P) (w := w) t ty e ie z' hu hie hz' ⟨b, 0, none⟩ len cap' olds hol hoc ⟨bx, ox, none⟩ nx' capx' cs hcl hcs (by omega) (by omega) hfits
                                        have hgc := grownCap_ge w (len + nx') cap' e
                                        obtain ⟨gc, hgce⟩ : ∃ gc, gc = grownCap w (len + nx') cap' e := ⟨_, rfl⟩
                                        rw [← hgce] at hrun hgc
                                        obtain ⟨A, hA⟩ : ∃ A, A = olds.toArray ++ cs.toArray ++ Builtin.zeroCells z'.cells (gc - (len + nx')) := ⟨_, rfl⟩
                                        rw [← hA] at hrun
                                        have hAs : A.size = gc * ie.size := by
                                          rw [hA]; simp only [Array.size_append, List.size_toArray, zeroCells_size, hol, hcl]
                                          rw [show z'.cells.size = ie.size by omega, ← Nat.add_mul, ← Nat.add_mul]; congr 1; omega
                                        have hA1 : ∀ i, i < len * ie.size → A[i]? = arr[i]? := fun i hi => by
                                          rw [hA, Array.append_assoc, Array.getElem?_append_left (by simp; omega), ← hoa i hi]; simp
                                        have hA2 : ∀ i, i < nx' * ie.size → A[len * ie.size + i]? = cs[i]? := fun i hi => by
                                          rw [hA, Array.append_assoc, Array.getElem?_append_right (by simp; omega), Array.getElem?_append_left (by simp; omega)]
                                          simp [hol]
                                        have ho : OR μ ρ (gc * ie.size) (.cells A e (0, 0)) (.cells (ofList news (len * ie.size) c) d ((len + nx') * ie.size) e) :=
                                          ⟨A, rfl, hAs, Nat.mul_le_mul_right _ hgc, newOK A hA1 hA2⟩
                                        obtain ⟨g1, g2, g3⟩ := (hG.drew.kill k).alloc ho
                                        exact ⟨_, _, _, hrun, g2, .sl (Mu.upd_self _ _ _) hgc (by simp) (Nat.le_refl _), g1, (Fr.drew G w).trans g3⟩
                                    · cases h
                                  · cases h
                                · cases h
                              · cases h
                            · cases h
                          · cases h
                      · cases h
                    · cases h
                  · cases h
              · cases h
            · cases h
      · cases h
    · cases h
  · cases h

/-- append(nil, make([]E, n)...) -/
noncomputable def appendZ (P : Program) (H : Heap) (ats : List TypeId) (s x : AV) : Option (AV × Heap) :=
  match ats with
  | [t, u] => match s with
    | .nils => match natOf x with
      | some n => match Nat.ble 1 n with
        | true => match Nat.ble n 1048576 with
          | true => match undT P t with
            | some (.slice e) => match undT P u with
              | some (.int _) => match infoT P e with
                | some ie => match Nat.ble ie.bytes 1024 with
                  | true => match zeroA P e with
                    | some z => match Nat.beq z.cells.length ie.size with
                      | true => match Nat.ble 1 ie.size with
                        | true => some (.sl H.next 0 n n ie.size, H.add (blockOf (repA z.cells n) e))
                        | false => none
                      | false => none
                    | none => none
                  | false => none
                | none => none
              | _ => none
            | _ => none
          | false => none
        | false => none
      | none => none
    | _ => none
  | _ => none
theorem zeroCells_list (z : Array Value) (n : Nat) (hz : 0 < z.size) : (Builtin.zeroCells z n).toList = repA z.toList n := by
  unfold Builtin.zeroCells; exact rep_arr z n hz
theorem appendZ_ok (hG : GR G μ ρ H w) {ats : Array TypeId} {ty : TypeId} {s x : AV} {s' x' : Value} (hs : VR μ ρ s s') (hx : VR μ ρ x x') {v : AV} {H' : Heap} (h : appendZ P H ats.toList s x = some (v, H')) :
    ValOK P G μ ρ (Builtin.append_ ats ty #[s', x']) w v H' := by
  unfold appendZ at h
  simp only [infoT_eq, undT_eq] at h
  split at h
  · rename_i t u hats
    have hats' : ats = #[t, u] := Array.toList_inj.1 hats
    subst hats'
    split at h
    · cases hs
      split at h
      · rename_i n hn
        obtain ⟨k, rfl⟩ := natOf_ok hx hn
        split at h
        · rename_i b1
          split at h
          · rename_i b2
            have b1 := Nat.le_of_ble_eq_true b1
            have b2 := Nat.le_of_ble_eq_true b2
            split at h
            · rename_i e hu
              split at h
              · rename_i ik hui
                cases hie : P.info? e with
                | none => simp [hie] at h
                | some ie =>
                  simp only [hie] at h
                  split at h
                  · rename_i b3
                    have b3 := Nat.le_of_ble_eq_true b3
                    cases hz : zeroA P e with
                    | none => simp [hz] at h
                    | some z =>
                      simp only [hz] at h
                      obtain ⟨i, z', hi, hz', hv⟩ := zeroA_ok (μ := μ) (ρ := ρ) hz
                      rw [hie] at hi; cases hi
                      split at h
                      · rename_i hzl
                        have hzl := Nat.eq_of_beq_eq_true hzl
                        have hzs := hv.cells.length
                        simp only [Array.length_toList] at hzs
                        split at h
                        · rename_i hs1
                          have hs1 := Nat.le_of_ble_eq_true hs1
                          cases h
                          have hbytes : n * ie.bytes ≤ 1073741824 := by
                            have : n * ie.bytes ≤ 1048576 * 1024 := Nat.mul_le_mul b2 b3
                            omega
                          have hgc := grownCap_ge w n 0 e
                          obtain ⟨gc, hgce⟩ : ∃ gc, gc = grownCap w n 0 e := ⟨_, rfl⟩
                          rw [← hgce] at hgc
                          have hw : IntKind.i64.wrap (n : Int) = n := IntWalk.i64_in _ ⟨by omega, by omega⟩
                          have hb' : ¬ ((n : Int) * (ie.bytes : Int) > 281474976710656) := by
                            have : ((n * ie.bytes : Nat) : Int) ≤ 1073741824 := by omega
                            rw [Int.natCast_mul] at this; omega
                          have hb'' : ¬ (281474976710656 < (n : Int) * (ie.bytes : Int)) := by omega
                          have hnn : ¬ ((n : Int) < 0) := by omega
                          have hn0 : n ≠ 0 := by omega
                          have h63 : ¬ (9223372036854775807 < (n : Int)) := by omega
                          have h48 : ¬ (281474976710656 < Builtin.nextslicecap n 0 * ie.bytes) := by rw [nextslicecap_zero (by omega)]; omega
                          have hsz0 : ¬ (n * ie.size = 0) := by
                            intro hc
                            rcases Nat.mul_eq_zero.1 hc with h | h <;> omega
                          have hrun : (Builtin.append_ #[t, u] ty #[.slice none 0 0, .int k (n : Int)]).run P w =
                              .ok (.slice (some ⟨w.heap.size, 0, none⟩) n gc) (w.drew.alloc (.cells (Builtin.zeroCells z'.cells n ++ Builtin.zeroCells z'.cells (gc - n)) e (0, 0))) := by
                            rw [hgce]
                            simp [Builtin.append_, run_underlying hu, run_underlying hui, Go.sizeOf, typeInfo, zeroValue, hie, hz', asInt, asIntOf, hw, hnn, hb'', hn0, h63, h48, Question.forced, run_firstCells_none, newRow, grownCap]
                            intro hc; exact absurd hc hsz0
                          have ho : OR μ ρ (gc * ie.size) (.cells (Builtin.zeroCells z'.cells n ++ Builtin.zeroCells z'.cells (gc - n)) e (0, 0)) (blockOf (repA z.cells n) e) := by
                            refine ⟨_, rfl, ?_, ?_, fun i hi => ?_⟩
                            · simp only [Array.size_append, zeroCells_size]
                              rw [show z'.cells.size = ie.size by omega, ← Nat.add_mul]; congr 1; omega
                            · rw [repA_length, hzl]; exact Nat.mul_le_mul_right _ hgc
                            · rw [cget_ofList, dif_pos ⟨Nat.zero_le _, by simpa using hi⟩]
                              have hr := VRs.rep hv.cells n
                              rw [← zeroCells_list z'.cells n (by omega)] at hr
                              obtain ⟨v', h1, h2⟩ := hr.get (List.getElem?_eq_getElem (show i < (repA z.cells n).length from hi))
                              refine ⟨v', ?_, by simpa using h2⟩
                              have hlt : i < (Builtin.zeroCells z'.cells n).size := by
                                rw [zeroCells_size, ← hzs, hzl]; rw [repA_length, hzl] at hi; exact hi
                              rw [Array.getElem?_append_left hlt]
                              simpa using h1
                          obtain ⟨g1, g2, g3⟩ := hG.drew.alloc ho
                          exact ⟨_, _, _, hrun, g2, .sl (Mu.upd_self _ _ _) hgc (by simp) (Nat.le_refl _), g1, (Fr.drew G w).trans g3⟩
                        · cases h
                      · cases h
                  · cases h
              · cases h
            · cases h
          · cases h
        · cases h
      · cases h
    · cases h
  · cases h
/-- Either append. -/
noncomputable def appendB (P : Program) (H : Heap) (ats : List TypeId) (s x : AV) : Option (AV × Heap) :=
  match appendA P H ats s x with
  | some r => some r
  | none => appendZ P H ats s x
theorem appendB_ok (hG : GR G μ ρ H w) {ats : Array TypeId} {ty : TypeId} {s x : AV} {s' x' : Value} (hs : VR μ ρ s s') (hx : VR μ ρ x x') {v : AV} {H' : Heap} (h : appendB P H ats.toList s x = some (v, H')) :
    ValOK P G μ ρ (Builtin.append_ ats ty #[s', x']) w v H' := by
  unfold appendB at h
  split at h
  · rename_i r hr; cases h; exact append_ok hG hs hx hr
  · exact appendZ_ok hG hs hx h
/-- The capacity, where it is known. -/
noncomputable def capA (P : Program) (t : TypeId) (x : AV) : Option AV :=
  match undT P t with
  | some (.slice _) => match x with
    | .nils => some (.int .i64 (.lit (Int.ofNat 0)))
    | _ => none
  | _ => none
theorem cap_ok (hG : GR G μ ρ H w) {ats : Array TypeId} {ty t : TypeId} (ht : ats[0]? = some t) {x : AV} {x' : Value} (hx : VR μ ρ x x') {v : AV} (h : capA P t x = some v) : ValOK P G μ ρ (Builtin.cap_ ats ty #[x']) w v H := by
  unfold capA at h
  simp only [undT_eq] at h
  split at h
  · rename_i e hu
    split at h
    · cases h; cases hx
      exact ValOK.pure hG (by simp [Builtin.cap_, ht, run_underlying hu]; rfl) (.int rfl)
    · cases h
  · cases h

/-! ### len -/
noncomputable def lenA (P : Program) (t : TypeId) (x : AV) : Option AV :=
  match undT P t with
  | some .string => match x with
    | .str s => some (.int .i64 (.lit (Int.ofNat s.size)))
    | _ => none
  | some (.array n _) => some (.int .i64 (.lit (Int.ofNat n)))
  | some (.slice _) => match x with
    | .sl _ _ len _ _ => some (.int .i64 (.lit (Int.ofNat len)))
    | .nils => some (.int .i64 (.lit (Int.ofNat 0)))
    | _ => none
  | _ => none
theorem len_ok (hG : GR G μ ρ H w) {ats : Array TypeId} {ty t : TypeId} (ht : ats[0]? = some t) {x : AV} {x' : Value} (hx : VR μ ρ x x') {v : AV} (h : lenA P t x = some v) : ValOK P G μ ρ (Builtin.len_ ats ty #[x']) w v H := by
  unfold lenA at h
  simp only [undT_eq] at h
  split at h
  · rename_i hu
    split at h
    · cases h; cases hx
      exact ValOK.pure hG (by simp [Builtin.len_, ht, run_underlying hu]; rfl) (.int rfl)
    · cases h
  · rename_i n e hu
    cases h
    exact ValOK.pure hG (by simp [Builtin.len_, ht, run_underlying hu]; rfl) (.int rfl)
  · rename_i e hu
    split at h
    · cases h; cases hx
      exact ValOK.pure hG (by simp [Builtin.len_, ht, run_underlying hu]; rfl) (.int rfl)
    · cases h; cases hx
      exact ValOK.pure hG (by simp [Builtin.len_, ht, run_underlying hu]; rfl) (.int rfl)
    · cases h
  · cases h
end
end Vx

/-! Strings, of which bytes may be unknown; bytes as strings; strings appended to bytes. -/
namespace Vx
open Go
section
variable {P : Program} {G : Gd} {μ : Mu} {ρ : Env} {H : Heap} {w : World}

noncomputable def litB : List UInt8 → List SE
  | [] => []
  | b :: r => .lit (Int.ofNat b.toNat) :: litB r
theorem litB_val : ∀ l : List UInt8, (litB l).map (SE.val ρ) = l.map fun b => (b.toNat : Int)
  | [] => rfl
  | b :: r => by simp only [litB, List.map_cons, litB_val r, SE.val]; rfl
noncomputable def strL (x : AV) : Option (List SE) :=
  match x with
  | .str s => some (litB s.data.toList)
  | .ustr l => some l
  | .zstr n => some (List.replicate n (.lit (.ofNat 0)))
  | _ => none
/-- The bytes of a string. -/
abbrev SV (ρ : Env) (l : List SE) (s : ByteArray) : Prop := l.map (SE.val ρ) = s.data.toList.map fun b => (b.toNat : Int)
theorem strL_ok {x : AV} {x' : Value} (hx : VR μ ρ x x') {l : List SE} (h : strL x = some l) : ∃ s : ByteArray, x' = .string s ∧ SV ρ l s := by
  unfold strL at h
  split at h
  · cases h; cases hx; exact ⟨_, rfl, litB_val _⟩
  · cases h; cases hx with | ustr h => exact ⟨_, rfl, h⟩
  · cases h; cases hx with | zstr h => exact ⟨_, rfl, by show List.map (SE.val ρ) _ = _; rw [List.map_replicate]; exact h.symm⟩
  · cases h
theorem SV.len {l : List SE} {s : ByteArray} (h : SV ρ l s) : l.length = s.size := by
  have := congrArg List.length h
  simpa using this
theorem vrs_ints (k : IntKind) : ∀ l : List SE, VRs μ ρ (l.map (AV.int k)) ((l.map (SE.val ρ)).map (Value.int k))
  | [] => .nil
  | _ :: r => .cons (.int rfl) (vrs_ints k r)
theorem SV.cells {l : List SE} {s : ByteArray} (h : SV ρ l s) : VRs μ ρ (l.map (AV.int .u8)) (Lib.strCells s) := by
  have e : Lib.strCells s = (l.map (SE.val ρ)).map (Value.int .u8) := by rw [h, Lib.strCells]; simp
  rw [e]; exact vrs_ints .u8 l

/-! ### Bytes as a string -/
noncomputable def wraps (op : BinOp) : Bool :=
  match op with
  | .add => true
  | .sub => true
  | .mul => true
  | .and => true
  | .or => true
  | .xor => true
  | .andNot => true
  | _ => false
noncomputable def isByteE (e : SE) : Bool :=
  match e with
  | .lit (.ofNat n) => Nat.ble n 255
  | .conv .u8 _ => true
  | .bin op .u8 _ _ => wraps op
  | _ => false
theorem wrap_u8 (x : Int) : 0 ≤ IntKind.u8.wrap x ∧ IntKind.u8.wrap x < 256 := by
  unfold IntKind.wrap
  simp [IntKind.signed, IntKind.bits]
  omega
theorem isByteE_ok {e : SE} (h : isByteE e = true) : 0 ≤ e.val ρ ∧ e.val ρ < 256 := by
  unfold isByteE at h
  split at h
  · rename_i n
    have := Nat.le_of_ble_eq_true h
    have e : (SE.lit (Int.ofNat n)).val ρ = (n : Int) := rfl
    omega
  · exact wrap_u8 _
  · unfold wraps at h
    split at h <;> first | (exact wrap_u8 _) | (cases h)
  · cases h
noncomputable def bytesOf : List AV → Option (List SE)
  | [] => some []
  | v :: r => match v with
    | .int .u8 e => match isByteE e with
      | true => match bytesOf r with
        | some l => some (e :: l)
        | none => none
      | false => none
    | _ => none
theorem bytesOf_ok : ∀ {l : List AV} {cs : List Value} {es : List SE}, VRs μ ρ l cs → bytesOf l = some es → cs = (es.map (SE.val ρ)).map (Value.int .u8) ∧ ∀ n ∈ es.map (SE.val ρ), 0 ≤ n ∧ n < 256
  | [], _, es, .nil, h => by
    simp only [bytesOf, Option.some.injEq] at h
    subst h; exact ⟨rfl, fun n hn => by simp at hn⟩
  | v :: r, _, es, .cons hv hs, h => by
    simp only [bytesOf] at h
    split at h
    · rename_i e
      split at h
      · rename_i hb
        split at h
        · rename_i l hl
          cases h
          obtain ⟨h1, h2⟩ := bytesOf_ok hs hl
          cases hv with
          | int he =>
          subst he
          refine ⟨by simp [h1], fun n hn => ?_⟩
          simp only [List.map_cons, List.mem_cons] at hn
          rcases hn with rfl | hn
          · exact isByteE_ok hb
          · exact h2 n hn
        · cases h
      · cases h
    · cases h
theorem push_bytes : ∀ (ns : List Int) (s : ByteArray), (ns.foldl (fun r n => r.push (UInt8.ofNat n.toNat)) s).data.toList = s.data.toList ++ ns.map fun n => UInt8.ofNat n.toNat
  | [], s => by simp
  | n :: r, s => by
    rw [List.foldl_cons, push_bytes r]
    simp [ByteArray.push]
theorem bytes_back {es : List SE} (hb : ∀ n ∈ es.map (SE.val ρ), 0 ≤ n ∧ n < 256) : SV ρ es ((es.map (SE.val ρ)).foldl (fun r n => r.push (UInt8.ofNat n.toNat)) ByteArray.empty) := by
  unfold SV
  rw [push_bytes]
  generalize es.map (SE.val ρ) = ns at hb
  show ns = ([] ++ ns.map fun n : Int => UInt8.ofNat n.toNat).map fun b : UInt8 => (b.toNat : Int)
  rw [List.nil_append, List.map_map]
  induction ns with
  | nil => rfl
  | cons n r ih =>
    have h1 := hb n List.mem_cons_self
    rw [List.map_cons, ← ih fun m hm => hb m (List.mem_cons_of_mem _ hm)]
    congr 1
    have h2 : n.toNat < UInt8.size := by show n.toNat < 256; omega
    simp only [Function.comp]
    rw [UInt8.toNat_ofNat_of_lt' h2]
    omega
/-- Great blocks of nothing but zeros. -/
noncomputable def a8 {β : Type} (g : β → Bool) (a : N8 β) : Bool :=
  N8.rec (motive := fun _ => Bool) (fun a0 a1 a2 a3 a4 a5 a6 a7 => ifb (g a0) (ifb (g a1) (ifb (g a2) (ifb (g a3) (ifb (g a4) (ifb (g a5) (ifb (g a6) (g a7) false) false) false) false) false) false) false) a
theorem ifb_both {x y : Bool} (h : ifb x y false = true) : x = true ∧ y = true := by cases x <;> cases y <;> first | exact ⟨rfl, rfl⟩ | cases h
theorem a8_ok {β : Type} {g : β → Bool} {a : N8 β} (h : a8 g a = true) (k : Nat) : g ((dg β k).sel a) = true := by
  have hk : k % 8 < 8 := Nat.mod_lt _ (by omega)
  rw [dg_eq]
  generalize k % 8 = k at hk
  cases a
  have h : ifb _ (ifb _ (ifb _ (ifb _ (ifb _ (ifb _ (ifb _ _ false) false) false) false) false) false) false = true := h
  obtain ⟨h0, h⟩ := ifb_both h
  obtain ⟨h1, h⟩ := ifb_both h
  obtain ⟨h2, h⟩ := ifb_both h
  obtain ⟨h3, h⟩ := ifb_both h
  obtain ⟨h4, h⟩ := ifb_both h
  obtain ⟨h5, h⟩ := ifb_both h
  obtain ⟨h6, h7⟩ := ifb_both h
  have hk : k = 0 ∨ k = 1 ∨ k = 2 ∨ k = 3 ∨ k = 4 ∨ k = 5 ∨ k = 6 ∨ k = 7 := by omega
  rcases hk with rfl | rfl | rfl | rfl | rfl | rfl | rfl | rfl <;> assumption
noncomputable def noneO (x : Option AV) : Bool := Option.rec (motive := fun _ => Bool) true (fun _ => false) x
theorem noneO_ok {x : Option AV} (h : noneO x = true) : x = none := by cases x <;> first | rfl | cases h
noncomputable def noneB (t : Bt AV) : Bool :=
  match t with
  | .e => true
  | .n .. => false
noncomputable def zT (a : Tr AV) : Bool :=
  ifb (a8 (a8 noneO) a.lo) (ifb (a8 (a8 (a8 noneO)) a.mid) (ifb (a8 (a8 (a8 (a8 noneO))) a.hi) (noneB a.far) false) false) false
theorem zT_ok {a : Tr AV} (h : zT a = true) (k : Nat) : a.get k = none := by
  obtain ⟨h0, h⟩ := ifb_both h
  obtain ⟨h1, h⟩ := ifb_both h
  obtain ⟨h2, h3⟩ := ifb_both h
  rw [Tr.get_eq]
  split
  · exact noneO_ok (a8_ok (a8_ok h0 _) _)
  · split
    · exact noneO_ok (a8_ok (a8_ok (a8_ok h1 _) _) _)
    · split
      · exact noneO_ok (a8_ok (a8_ok (a8_ok (a8_ok h2 _) _) _) _)
      · unfold noneB at h3
        split at h3
        · rename_i e; rw [e]; rfl
        · cases h3
noncomputable def isZb (d : AV) : Bool :=
  match d with
  | .int .u8 (.lit (.ofNat 0)) => true
  | _ => false
noncomputable def zsl (H : Heap) (x : AV) : Option Nat :=
  match x with
  | .sl k o len _ _ => match Nat.ble 1024 len with
    | true => match H.tr.get k with
      | some (.cells c d m _) => match Nat.ble (Nat.add o (Nat.mul len 1)) m with
        | true => match isZb d with
          | true => match zT c with
            | true => some len
            | false => none
          | false => none
        | false => none
      | _ => none
    | false => none
  | _ => none
theorem cells_zero {c : Tr AV} (hc : ∀ k, c.get k = none) (d : AV) : ∀ (n o : Nat), cellsFrom c d o n = List.replicate n d
  | 0, _ => rfl
  | n + 1, o => by
    have e : cget c d o = d := by unfold cget; rw [hc]; rfl
    rw [cellsFrom, cells_zero hc d n, e]; rfl
theorem bytesOf_zero : ∀ n : Nat, bytesOf (List.replicate n (.int .u8 (.lit (.ofNat 0)))) = some (List.replicate n (.lit (.ofNat 0)))
  | 0 => rfl
  | n + 1 => by
    rw [List.replicate_succ, List.replicate_succ]
    simp only [bytesOf, bytesOf_zero n]
    rfl
theorem zsl_ok {x : AV} {n : Nat} (h : zsl H x = some n) : ∃ l, srcA H x 1 = some l ∧ bytesOf l = some (List.replicate n (.lit (.ofNat 0))) := by
  unfold zsl at h
  split at h
  · split at h
    · split at h
      · rename_i c d m el hk
        split at h
        · rename_i hb
          split at h
          · rename_i hz
            split at h
            · rename_i hc
              cases h
              have hd : d = .int .u8 (.lit (.ofNat 0)) := by
                unfold isZb at hz
                split at hz
                · rfl
                · cases hz
              refine ⟨_, by simp only [srcA, hk, hb]; rfl, ?_⟩
              rw [cells_zero (zT_ok hc), hd]
              have := bytesOf_zero n
              simpa using this
            · cases h
          · cases h
        · cases h
      · cases h
    · cases h
  · cases h
/-- string(bytes). -/
noncomputable def bytesStrA (H : Heap) (x : AV) : Option AV :=
  match x with
  | .nils => some (.ustr [])
  | x => match zsl H x with
    | some n => some (.zstr n)
    | none => match srcA H x 1 with
      | some l => match bytesOf l with
        | some es => some (.ustr es)
        | none => none
      | none => none
theorem loadCells_at (a : Addr) (n : Nat) (cs : List Value) (hl : cs.length = n) (h : ∀ j v, cs[j]? = some v → w.cell? (a.add j) = some v) : (loadCells a n).run P w = .ok cs.toArray w := by
  subst hl
  have := run_firstCells_some (P := P) w 1 cs.length a cs.length cs.length cs (by simp) h
  simpa [Builtin.firstCells] using this
theorem bytesStr_ok (hG : GR G μ ρ H w) {x : AV} {x' : Value} (hx : VR μ ρ x x') {v : AV} (h : bytesStrA H x = some v) : ValOK P G μ ρ (Conv.bytesToString x') w v H := by
  unfold bytesStrA at h
  split at h
  · cases h; cases hx
    exact ValOK.pure hG (v' := .string .empty) rfl (.ustr rfl)
  · split at h
    · rename_i n hn
      cases h
      obtain ⟨l, hl, hes⟩ := zsl_ok hn
      obtain ⟨b, o, len, cap', k, cap, esz, cs, rfl, rfl, hcl, hnl, hcs, hvr⟩ := srcA_ok hG hx hl
      obtain ⟨h1, h2⟩ := bytesOf_ok hvr hes
      have hb := bytes_back h2
      refine ValOK.pure hG ?_ (.zstr (by rw [← hb, List.map_replicate]; rfl))
      refine run_bytesToString w _ _ _ _ ?_
      rw [← h1]
      exact loadCells_at _ _ _ (by omega) hcs
    · split at h
      · rename_i l hl
        split at h
        · rename_i es hes
          cases h
          obtain ⟨b, o, len, cap', k, cap, esz, cs, rfl, rfl, hcl, hnl, hcs, hvr⟩ := srcA_ok hG hx hl
          obtain ⟨h1, h2⟩ := bytesOf_ok hvr hes
          refine ValOK.pure hG ?_ (.ustr (bytes_back h2))
          refine run_bytesToString w _ _ _ _ ?_
          rw [← h1]
          exact loadCells_at _ _ _ (by omega) hcs
        · cases h
      · cases h

/-! ### Strings together; parts; likeness -/
noncomputable def litI (e : SE) : Option Int :=
  match e with
  | .lit n => some n
  | _ => none
noncomputable def bytesE : List SE → List SE → Option Bool
  | [], [] => some true
  | [], _ :: _ => some false
  | _ :: _, [] => some false
  | a :: r, b :: s => match litI a with
    | some x => match litI b with
      | some y => match ibeq x y with
        | true => bytesE r s
        | false => some false
      | none => none
    | none => none
theorem bytesE_ok : ∀ {l r : List SE} {b : Bool}, bytesE l r = some b → decide (l.map (SE.val ρ) = r.map (SE.val ρ)) = b
  | [], [], b, h => by simp only [bytesE, Option.some.injEq] at h; subst h; rfl
  | [], _ :: _, b, h => by simp only [bytesE, Option.some.injEq] at h; subst h; rfl
  | _ :: _, [], b, h => by simp only [bytesE, Option.some.injEq] at h; subst h; rfl
  | x :: l, y :: r, b, h => by
    simp only [bytesE] at h
    split at h
    · rename_i m hm
      split at h
      · rename_i n hn
        have hx : x.val ρ = m := by
          unfold litI at hm
          split at hm
          · cases hm; rfl
          · cases hm
        have hy : y.val ρ = n := by
          unfold litI at hn
          split at hn
          · cases hn; rfl
          · cases hn
        rw [List.map_cons, List.map_cons, hx, hy]
        rw [ibeq_eq] at h
        split at h
        · rename_i he
          have he : m = n := by simpa using he
          subst he
          have := bytesE_ok h
          simpa using this
        · rename_i he
          have he : m ≠ n := by simpa using he
          cases h
          simp [he]
      · cases h
    · cases h
theorem SV.eq {l r : List SE} {s u : ByteArray} (hl : SV ρ l s) (hr : SV ρ r u) {b : Bool} (h : bytesE l r = some b) : (s.data.toList == u.data.toList) = b := by
  have := bytesE_ok (ρ := ρ) h
  rw [hl, hr] at this
  rw [← this]
  have inj : ∀ x y : List UInt8, (x.map fun b => (b.toNat : Int)) = (y.map fun b => (b.toNat : Int)) → x = y := fun x y hxy => by
    refine List.map_inj_right (f := fun b : UInt8 => (b.toNat : Int)) (fun a b hab => ?_) |>.1 hxy
    have hab' : (a.toNat : Int) = (b.toNat : Int) := hab
    exact UInt8.toNat_inj.1 (Int.ofNat.inj hab')
  by_cases he : s.data.toList = u.data.toList
  · rw [he]; simp
  · have : ¬ (s.data.toList.map fun b => (b.toNat : Int)) = (u.data.toList.map fun b => (b.toNat : Int)) := fun hc => he (inj _ _ hc)
    rw [decide_eq_false this]
    exact beq_eq_false_iff_ne.2 he
theorem SV.append {l r : List SE} {s u : ByteArray} (hl : SV ρ l s) (hr : SV ρ r u) : SV ρ (l ++ r) (s ++ u) := by
  unfold SV at *
  rw [List.map_append, hl, hr, ← List.map_append]
  simp
theorem SV.extract {l : List SE} {s : ByteArray} (hl : SV ρ l s) (a b : Nat) : SV ρ ((l.drop a).take (b - a)) (s.extract a b) := by
  unfold SV at *
  rw [List.map_take, List.map_drop, hl, ← List.map_drop, ← List.map_take]
  congr 1
  simp [List.extract_eq_take_drop]
noncomputable def strBin (op : BinOp) (l r : List SE) : Option AV :=
  match op with
  | .add => match Nat.ble (Nat.add l.length r.length) 1099511627776 with
    | true => some (.ustr (l ++ r))
    | false => none
  | .eql => match bytesE l r with
    | some b => some (.bool b)
    | none => none
  | .neq => match bytesE l r with
    | some b => some (.bool (not b))
    | none => none
  | _ => none
theorem strBin_ok {l r : List SE} {s u : ByteArray} (hl : SV ρ l s) (hr : SV ρ r u) {op : BinOp} {v : AV} (h : strBin op l r = some v) : ∃ v', (Op.stringOp op s u).run P w = .ok v' w ∧ VR μ ρ v v' := by
  unfold strBin at h
  split at h
  · split at h
    · rename_i hle
      cases h
      have hle := Nat.le_of_ble_eq_true hle
      have h1 := hl.len
      have h2 := hr.len
      have hn : ¬ (((s.size + u.size : Nat) : Int) > IntKind.i64.max) := by
        have : IntKind.i64.max = 9223372036854775807 := rfl
        have e : Nat.add l.length r.length = l.length + r.length := rfl
        omega
      refine ⟨.string (s ++ u), ?_, .ustr (hl.append hr)⟩
      simp only [Op.stringOp]
      rw [if_neg hn]; rfl
    · cases h
  · split at h
    · rename_i b hb
      cases h
      refine ⟨.bool b, ?_, .bool⟩
      have := hl.eq hr hb
      simp only [Op.stringOp, ByteArray.toList_eq]
      rw [this]; rfl
    · cases h
  · split at h
    · rename_i b hb
      cases h
      refine ⟨.bool (!b), ?_, .bool⟩
      have := hl.eq hr hb
      simp only [Op.stringOp, ByteArray.toList_eq]
      rw [this]; rfl
    · cases h
  · cases h
end
end Vx

/-! append(bytes, string...). -/
namespace Vx
open Go
section
variable {P : Program} {G : Gd} {μ : Mu} {ρ : Env} {H : Heap} {w : World}

noncomputable def appendS (P : Program) (H : Heap) (ats : List TypeId) (s x : AV) : Option (AV × Heap) :=
  match ats with
  | [t, u] => match undT P u with
    | some .string => match undT P t with
      | some (.slice e) => match infoT P e with
        | some ie => match strL x with
          | some l => match Nat.beq ie.size 1 with
            | true => match Nat.beq ie.bytes 1 with
              | true => match zeroA P e with
                | some z => match Nat.beq z.cells.length 1 with
                  | true => match Nat.beq l.length 0 with
                    | true => match s with
                      | .nils => some (s, H)
                      | .sl .. => some (s, H)
                      | _ => none
                    | false => match s with
                      | .nils => match Nat.ble l.length 1099511627776 with
                        | true => some (.sl H.next 0 l.length l.length 1, H.add (blockOf (l.map (AV.int .u8)) e))
                        | false => none
                      | .sl k o len _ esz => match Nat.beq esz 1 with
                        | true => match Nat.beq o 0 with
                          | true => match H.tr.get k with
                            | some (.cells c d m e') => match Nat.beq e e' with
                              | true => match Nat.ble len m with
                                | true => match Nat.ble (Nat.add len l.length) 1099511627776 with
                                  | true => some (.sl H.next 0 (Nat.add len l.length) (Nat.add len l.length) 1, (H.kill k).add (.cells (ofList (l.map (AV.int .u8)) len c) d (Nat.add len l.length) e))
                                  | false => none
                                | false => none
                              | false => none
                            | _ => none
                          | false => none
                        | false => none
                      | _ => none
                  | false => none
                | none => none
              | false => none
            | false => none
          | none => none
        | none => none
      | _ => none
    | _ => none
  | _ => none
theorem appendS_ok (hG : GR G μ ρ H w) {ats : Array TypeId} {ty : TypeId} {s x : AV} {s' x' : Value} (hs : VR μ ρ s s') (hx : VR μ ρ x x') {v : AV} {H' : Heap} (h : appendS P H ats.toList s x = some (v, H')) :
    ValOK P G μ ρ (Builtin.append_ ats ty #[s', x']) w v H' := by
  unfold appendS at h
  simp only [infoT_eq, undT_eq] at h
  split at h
  · rename_i t u hats
    have hats' : ats = #[t, u] := Array.toList_inj.1 hats
    subst hats'
    split at h
    · rename_i huu
      split at h
      · rename_i e hu
        cases hie : P.info? e with
        | none => simp [hie] at h
        | some ie =>
          simp only [hie] at h
          split at h
          · rename_i l hl
            obtain ⟨st, rfl, hsv⟩ := strL_ok hx hl
            have hlen := hsv.len
            have hcells := hsv.cells (μ := μ)
            have hcl := Lib.strCells_length st
            split at h
            · rename_i hs1
              have hs1 := Nat.eq_of_beq_eq_true hs1
              split at h
              · rename_i hb1
                have hb1 := Nat.eq_of_beq_eq_true hb1
                cases hz : zeroA P e with
                | none => simp [hz] at h
                | some z =>
                  simp only [hz] at h
                  obtain ⟨i, z', hi, hz', hv⟩ := zeroA_ok (μ := μ) (ρ := ρ) hz
                  rw [hie] at hi; cases hi
                  split at h
                  · rename_i hzl
                    have hzl := Nat.eq_of_beq_eq_true hzl
                    have hzs := hv.cells.length
                    simp only [Array.length_toList] at hzs
                    split at h
                    · -- nothing to append
                      rename_i h0
                      have h0 := Nat.eq_of_beq_eq_true h0
                      have hst0 : st.size = 0 := by omega
                      have hf := Lib.run_firstCells_string (P := P) w ie.size st
                      have he : (Lib.strCells st).toArray = #[] := by
                        have : Lib.strCells st = [] := List.eq_nil_of_length_eq_zero (by omega)
                        rw [this]
                      rw [he, hst0] at hf
                      have key : ∀ (a : Option Addr) (n c : Nat), n ≤ c → (Builtin.append_ #[t, u] ty #[.slice a n c, .string st]).run P w = .ok (.slice a n c) w := fun a n c hlc => by
                        cases a <;> simp [Builtin.append_, run_underlying hu, run_underlying huu, Go.sizeOf, typeInfo, hie, Builtin.lenOf, hst0, hlc, hf, storeCells]
                      split at h
                      · cases h; cases hs
                        exact ValOK.pure hG (key _ _ _ (Nat.le_refl _)) .nils
                      · cases h
                        cases hs with
                        | sl hb h1 h2 h3 => exact ValOK.pure hG (key _ _ _ (by omega)) (.sl hb h1 h2 h3)
                      · cases h
                    · rename_i h0
                      have hnx : 0 < st.size := by
                        rcases Nat.eq_zero_or_pos st.size with hq | hq
                        · rw [hlen, hq] at h0; cases h0
                        · exact hq
                      split at h
                      · -- nil
                        cases hs
                        split at h
                        · rename_i b1
                          cases h
                          have b1 := Nat.le_of_ble_eq_true b1
                          have hrun := run_append_nil_string (P := P) (w := w) t u ty e ie z' hu huu hie hz' st hnx (by omega) (by rw [hb1]; omega)
                          have hgc := grownCap_ge w st.size 0 e
                          obtain ⟨gc, hgce⟩ : ∃ gc, gc = grownCap w st.size 0 e := ⟨_, rfl⟩
                          rw [← hgce] at hrun hgc
                          have hdat : (st.data.map fun b => Value.int .u8 (b.toNat : Int)) = (Lib.strCells st).toArray := by
                            apply Array.toList_inj.1
                            simp [Lib.strCells]
                          rw [hdat] at hrun
                          have ho : OR μ ρ (gc * 1) (.cells ((Lib.strCells st).toArray ++ Builtin.zeroCells z'.cells (gc - st.size)) e (0, 0)) (blockOf (l.map (AV.int .u8)) e) := by
                            refine ⟨_, rfl, ?_, ?_, fun i hi => ?_⟩
                            · simp only [Array.size_append, List.size_toArray, zeroCells_size, hcl]
                              rw [show z'.cells.size = 1 by omega]; omega
                            · simp; omega
                            · rw [cget_ofList, dif_pos ⟨Nat.zero_le _, by simpa using hi⟩]
                              obtain ⟨v', h1, h2⟩ := hcells.get (List.getElem?_eq_getElem (show i < (l.map (AV.int .u8)).length from hi))
                              refine ⟨v', ?_, by simpa using h2⟩
                              have hi' : i < st.size := by have hi2 : i < (l.map (AV.int .u8)).length := hi; simp at hi2; omega
                              rw [Array.getElem?_append_left (by simpa [hcl] using hi')]
                              simpa using h1
                          obtain ⟨g1, g2, g3⟩ := hG.drew.alloc ho
                          refine ⟨_, _, _, hrun, g2, ?_, g1, (Fr.drew G w).trans g3⟩
                          rw [hlen]
                          exact .sl (Mu.upd_self _ _ _) hgc (by simp) (Nat.le_refl _)
                        · cases h
                      · -- a slice
                        rename_i k o len cap esz
                        cases hs with
                        | @sl _ _ _ _ _ b n cap' hb c1 c2 c3 =>
                        split at h
                        · rename_i hes
                          have hes := Nat.eq_of_beq_eq_true hes
                          subst hes
                          split at h
                          · rename_i ho0
                            have ho0 := Nat.eq_of_beq_eq_true ho0
                            subst ho0
                            split at h
                            · rename_i c d m e' hk
                              split at h
                              · rename_i hee
                                have hee := Nat.eq_of_beq_eq_true hee
                                subst hee
                                split at h
                                · rename_i hm
                                  have hm := Nat.le_of_ble_eq_true hm
                                  split at h
                                  · rename_i b2
                                    cases h
                                    have b2 := Nat.le_of_ble_eq_true b2
                                    simp only [Nat.add_eq, hlen] at b2 ⊢
                                    obtain ⟨b1', n1, x1, e1, _, e3, arr, hxe, e4, e5, e6⟩ := hG.obj k _ hk
                                    rw [hb] at e1; cases e1
                                    subst hxe
                                    have newOK : ∀ (a2 : Array Value), (∀ i, i < len → a2[i]? = arr[i]?) → (∀ i, i < st.size → a2[len + i]? = (Lib.strCells st)[i]?) →
                                        ∀ i, i < len + st.size → ∃ v', a2[i]? = some v' ∧ VR μ ρ (cget (ofList (l.map (AV.int .u8)) len c) d i) v' := fun a2 h1 h2 i hi => by
                                      by_cases hil : i < len
                                      · obtain ⟨v', q1, q2⟩ := e6 i (by omega)
                                        rw [cget_ofList, dif_neg (by omega), h1 i hil]
                                        exact ⟨v', q1, q2⟩
                                      · have hb2 : i - len < (l.map (AV.int .u8)).length := by simp; omega
                                        rw [cget_ofList, dif_pos ⟨by omega, hb2⟩]
                                        obtain ⟨v', q1, q2⟩ := hcells.get (List.getElem?_eq_getElem hb2)
                                        have := h2 (i - len) (by omega)
                                        rw [show len + (i - len) = i by omega] at this
                                        exact ⟨v', this.trans q1, q2⟩
                                    by_cases hcap : len + st.size ≤ cap'
                                    · have hfit : len + st.size ≤ arr.size := by omega
                                      have hrun := Lib.run_append_room_string (P := P) w t u ty e ie hu huu hie hs1 b len cap' arr e3 st hcap hfit
                                      obtain ⟨A, hA⟩ : ∃ A, A = (arr.toList.take len ++ Lib.strCells st ++ arr.toList.drop (len + st.size)).toArray := ⟨_, rfl⟩
                                      rw [← hA] at hrun
                                      have hAs : A.size = n := by rw [hA]; simp [hcl]; omega
                                      have hA1 : ∀ i, i < len → A[i]? = arr[i]? := fun i hi => by
                                        rw [hA]; simp only [List.getElem?_toArray]
                                        rw [List.append_assoc, List.getElem?_append_left (by simp; omega), List.getElem?_take, if_pos hi]; simp
                                      have hA2 : ∀ i, i < st.size → A[len + i]? = (Lib.strCells st)[i]? := fun i hi => by
                                        rw [hA]; simp only [List.getElem?_toArray]
                                        rw [List.append_assoc, List.getElem?_append_right (by simp; omega), List.getElem?_append_left (by simp [hcl]; omega)]
                                        congr 1; simp; omega
                                      have ho : OR μ ρ n (.cells A e (0, 0)) (.cells (ofList (l.map (AV.int .u8)) len c) d (len + st.size) e) :=
                                        ⟨A, rfl, hAs, by omega, newOK A hA1 hA2⟩
                                      obtain ⟨g1, g2, g3⟩ := hG.move (w' := w.setRow b A) hk hb (fun b' hne => setRow_other _ _ _ _ hne) (setRow_heap w b arr A e (0, 0) e3) (by simp) ho rfl rfl rfl
                                      exact ⟨_, _, _, hrun, g2, .sl (Mu.upd_self _ _ _) hcap (by simpa using c2) (Nat.le_refl _), g1, g3⟩
                                    · have holds : ∃ olds : List Value, olds.length = len * ie.size ∧ (∀ j v, olds[j]? = some v → w.cell? ((⟨b, 0, none⟩ : Addr).add j) = some v) ∧ ∀ i, i < len → olds[i]? = arr[i]? := by
                                        refine ⟨arr.toList.take len, by rw [hs1]; simp; omega, fun j v hj => ?_, fun i hi => ?_⟩
                                        · rw [addr_add]
                                          rw [List.getElem?_take] at hj
                                          split at hj
                                          · simp [World.cell?, e3]; simpa using hj
                                          · cases hj
                                        · rw [List.getElem?_take, if_pos hi]; simp
                                      obtain ⟨olds, hol, hoc, hoa⟩ := holds
                                      have hfits := growslice_fits (need := len + st.size) (old := cap') (bytes := ie.bytes) (by omega) (by rw [hb1]; omega)
                                      have hrun := Lib.run_append_grow_string (P := P) w t u ty e ie z' hu huu hie hz' ⟨b, 0, none⟩ len cap' olds hol hoc st (by omega) (by omega) hfits
                                      have hgc := grownCap_ge w (len + st.size) cap' e
                                      obtain ⟨gc, hgce⟩ : ∃ gc, gc = grownCap w (len + st.size) cap' e := ⟨_, rfl⟩
                                      rw [← hgce] at hrun hgc
                                      rw [hs1, Nat.mul_one] at hol
                                      obtain ⟨A, hA⟩ : ∃ A, A = olds.toArray ++ (Lib.strCells st).toArray ++ Builtin.zeroCells z'.cells (gc - (len + st.size)) := ⟨_, rfl⟩
                                      rw [← hA] at hrun
                                      have hAs : A.size = gc * 1 := by
                                        rw [hA]; simp only [Array.size_append, List.size_toArray, zeroCells_size, hol, hcl]
                                        rw [show z'.cells.size = 1 by omega]; omega
                                      have hA1 : ∀ i, i < len → A[i]? = arr[i]? := fun i hi => by
                                        rw [hA, Array.append_assoc, Array.getElem?_append_left (by simp; omega), ← hoa i hi]; simp
                                      have hA2 : ∀ i, i < st.size → A[len + i]? = (Lib.strCells st)[i]? := fun i hi => by
                                        rw [hA, Array.append_assoc, Array.getElem?_append_right (by simp; omega), Array.getElem?_append_left (by simp [hcl, hol]; omega)]
                                        simp [hol]
                                      have ho : OR μ ρ (gc * 1) (.cells A e (0, 0)) (.cells (ofList (l.map (AV.int .u8)) len c) d (len + st.size) e) :=
                                        ⟨A, rfl, hAs, by omega, newOK A hA1 hA2⟩
                                      obtain ⟨g1, g2, g3⟩ := (hG.drew.kill k).alloc ho
                                      exact ⟨_, _, _, hrun, g2, .sl (Mu.upd_self _ _ _) hgc (by simp) (Nat.le_refl _), g1, (Fr.drew G w).trans g3⟩
                                  · cases h
                                · cases h
                              · cases h
                            · cases h
                          · cases h
                        · cases h
                      · cases h
                  · cases h
              · cases h
            · cases h
          · cases h
      · cases h
    · cases h
  · cases h
/-- append to a slice of no capacity. -/
noncomputable def appendE (P : Program) (H : Heap) (ats : List TypeId) (k o : Nat) (x : AV) : Option (AV × Heap) :=
  match ats with
  | [t, u] => match Nat.beq t u with
    | true => match undT P t with
      | some (.slice e) => match infoT P e with
        | some ie => match isNone' x with
          | true => some (.sle k o, H)
          | false => match x with
            | .sl kx ox nx cx ex => match srcA H (.sl kx ox nx cx ex) ie.size with
              | some news => match zeroA P e with
                | some z => match Nat.beq z.cells.length ie.size with
                  | true => match Nat.ble (Nat.mul nx ie.bytes) 1099511627776 with
                    | true => match Nat.ble nx 1099511627776 with
                      | true => some (.sl H.next 0 nx nx ie.size, H.add (blockOf news e))
                      | false => none
                    | false => none
                  | false => none
                | none => none
              | none => none
            | _ => none
        | none => none
      | _ => none
    | false => none
  | _ => none
theorem appendE_ok (hG : GR G μ ρ H w) {ats : Array TypeId} {ty : TypeId} {k o : Nat} {x : AV} {s' x' : Value} (hs : VR μ ρ (.sle k o) s') (hx : VR μ ρ x x') {v : AV} {H' : Heap} (h : appendE P H ats.toList k o x = some (v, H')) :
    ValOK P G μ ρ (Builtin.append_ ats ty #[s', x']) w v H' := by
  unfold appendE at h
  simp only [infoT_eq, undT_eq] at h
  split at h
  · rename_i t u hats
    have hats' : ats = #[t, u] := Array.toList_inj.1 hats
    subst hats'
    split at h
    · rename_i htu
      have htu := Nat.eq_of_beq_eq_true htu
      subst htu
      split at h
      · rename_i e hu
        cases hie : P.info? e with
        | none => simp [hie] at h
        | some ie =>
          simp only [hie] at h
          cases hs with
          | @sle _ _ b n hb =>
          split at h
          · rename_i hn
            cases h
            have hx0 : ∃ (a : Option Addr) (c : Nat), x' = .slice a 0 c := by
              unfold isNone' at hn
              split at hn
              · cases hx; exact ⟨none, 0, rfl⟩
              · cases hx with
                | sl _ _ _ _ =>
                have := Nat.eq_of_beq_eq_true hn
                subst this; exact ⟨_, _, rfl⟩
              · cases hn
            obtain ⟨ax, cx, rfl⟩ := hx0
            have hf : (Builtin.firstCells ie.size 0 (.slice ax 0 cx)).run P w = .ok #[] w := by
              cases ax <;> simp [Builtin.firstCells, loadCells, loadCellsFrom]
            refine ValOK.pure hG (v' := .slice (some ⟨b, o, none⟩) 0 0) ?_ (.sle hb)
            simp [Builtin.append_, run_underlying hu, Go.sizeOf, typeInfo, hie, Builtin.lenOf, hf, storeCells]
          · split at h
            · rename_i kx ox nx cx ex hnn
              split at h
              · rename_i news hsrc
                obtain ⟨bx, ox', nx', capx', kx', capx, eszx, cs, hxe, rfl, hcl, hnl, hcs, hvr⟩ := srcA_ok hG hx hsrc
                cases hxe
                have hnx : 0 < nx := by
                  rcases Nat.eq_zero_or_pos nx with h0 | h0
                  · subst h0; exact absurd hnn (by simp [isNone'])
                  · exact h0
                cases hz : zeroA P e with
                | none => simp [hz] at h
                | some z =>
                  simp only [hz] at h
                  obtain ⟨i, z', hi, hz', hv⟩ := zeroA_ok (μ := μ) (ρ := ρ) hz
                  rw [hie] at hi; cases hi
                  split at h
                  · rename_i hzl
                    have hzl := Nat.eq_of_beq_eq_true hzl
                    have hzs := hv.cells.length
                    simp only [Array.length_toList] at hzs
                    split at h
                    · rename_i b1
                      split at h
                      · rename_i b2
                        cases h
                        have b1 := Nat.le_of_ble_eq_true b1
                        have b2 := Nat.le_of_ble_eq_true b2
                        simp only [Nat.mul_eq] at b1
                        have hfits := growslice_fits (need := 0 + nx) (old := 0) (bytes := ie.bytes) (by omega) (by rw [Nat.zero_add]; omega)
                        have hrun := run_append_grow (P := P) (w := w) t ty e ie z' hu hie hz' ⟨b, o, none⟩ 0 0 [] (by simp) (fun j v hj => by simp at hj) ⟨bx, ox, none⟩ nx capx' cs hcl hcs (by omega) (by omega) hfits
                        simp only [Nat.zero_add] at hrun
                        have hgc := grownCap_ge w nx 0 e
                        obtain ⟨gc, hgce⟩ : ∃ gc, gc = grownCap w nx 0 e := ⟨_, rfl⟩
                        rw [← hgce] at hrun hgc
                        have he0 : (#[] : Array Value) ++ cs.toArray = cs.toArray := by simp
                        have he1 : ([] : List Value).toArray = #[] := rfl
                        rw [he1, he0] at hrun
                        have ho : OR μ ρ (gc * ie.size) (.cells (cs.toArray ++ Builtin.zeroCells z'.cells (gc - nx)) e (0, 0)) (blockOf news e) := by
                          refine ⟨_, rfl, ?_, ?_, fun i hi => ?_⟩
                          · simp only [Array.size_append, List.size_toArray, zeroCells_size, hcl]
                            rw [show z'.cells.size = ie.size by omega, ← Nat.add_mul]; congr 1; omega
                          · rw [hnl]; exact Nat.mul_le_mul_right _ hgc
                          · rw [cget_ofList, dif_pos ⟨Nat.zero_le _, by simpa using hi⟩]
                            obtain ⟨v', h1, h2⟩ := hvr.get (List.getElem?_eq_getElem (show i < news.length from hi))
                            refine ⟨v', ?_, by simpa using h2⟩
                            rw [Array.getElem?_append_left (by simpa [hcl, ← hnl] using hi)]
                            simpa using h1
                        obtain ⟨g1, g2, g3⟩ := hG.drew.alloc ho
                        exact ⟨_, _, _, hrun, g2, .sl (Mu.upd_self _ _ _) hgc (by simp) (Nat.le_refl _), g1, (Fr.drew G w).trans g3⟩
                      · cases h
                    · cases h
                  · cases h
              · cases h
            · cases h
      · cases h
    · cases h
  · cases h
/-- append(s, make([]E, n)...), elements of one cell. -/
noncomputable def isBtE {α : Type} (t : Bt α) : Bool := Bt.rec (motive := fun _ => Bool) true (fun _ _ _ _ _ => false) t
noncomputable def avSame (d z : AV) : Bool :=
  match d with
  | .int .u8 (.lit (.ofNat a)) => match z with
    | .int .u8 (.lit (.ofNat b)) => Nat.beq a b
    | _ => false
  | _ => false
theorem avSame_eq {d z : AV} (h : avSame d z = true) : d = z := by
  unfold avSame at h
  split at h
  · split at h
    · rw [Nat.eq_of_beq_eq_true h]
    · cases h
  · cases h
theorem isBtE_ok {α : Type} {t : Bt α} (h : isBtE t = true) : t = .e := by
  cases t with
  | e => rfl
  | n => cases h
noncomputable def zeroTail (c : Tr AV) (d z : AV) (len n m : Nat) : Option (Tr AV) :=
  match Nat.ble n 4096 with
  | true => some (ofList (repA [z] n) len c)
  | false => match avSame d z with
    | false => none
    | true => match Nat.beq m len with
      | false => none
      | true => match Nat.ble 65536 m with
        | false => none
        | true => match isBtE c.far with
          | true => some c
          | false => none
noncomputable def isIntA (z : AV) : Bool :=
  match z with
  | .int _ (.lit _) => true
  | _ => false
theorem zeroTail_ok {c c' : Tr AV} {d z : AV} {len n m : Nat} (_hm : len ≤ m) (h : zeroTail c d z len n m = some c') : (∀ i, i < len → cget c' d i = cget c d i) ∧ ∀ i, len ≤ i → i < len + n → cget c' d i = z := by
  unfold zeroTail at h
  have hlen : (repA [z] n).length = n := by rw [repA_length]; simp
  have hall : ∀ n, ∀ x ∈ repA [z] n, x = z := fun n => by
    induction n with
    | zero => intro x hx; cases hx
    | succ n ih =>
      intro x hx
      simp only [repA, List.singleton_append, List.mem_cons] at hx
      rcases hx with h | h
      · exact h
      · exact ih x h
  split at h
  · cases h
    refine ⟨fun i hi => ?_, fun i h1 h2 => ?_⟩
    · rw [cget_ofList, dif_neg (by omega)]
    · rw [cget_ofList, dif_pos ⟨h1, by rw [hlen]; omega⟩]
      exact hall n _ (List.getElem_mem _)
  · split at h
    · cases h
    · rename_i hd
      split at h
      · cases h
      · rename_i hml
        split at h
        · cases h
        · rename_i hbig
          split at h
          · rename_i he
            cases h
            have hd : avSame d z = true := by cases hq : avSame d z with | true => rfl | false => exact absurd hq (by simpa using hd)
            have hml : m = len := by
              cases hq : Nat.beq m len with
              | true => exact Nat.eq_of_beq_eq_true hq
              | false => exact absurd hq (by simpa using hml)
            have hbig : 65536 ≤ m := by
              cases hq : Nat.ble 65536 m with
              | true => exact Nat.le_of_ble_eq_true hq
              | false => exact absurd hq (by simpa using hbig)
            have he := isBtE_ok he
            refine ⟨fun _ _ => rfl, fun i h1 h2 => ?_⟩
            have hg : c.get i = none := by
              unfold Tr.get
              have e1 : Nat.ble i 63 = false := by
                cases hq : Nat.ble i 63 with
                | false => rfl
                | true => have := Nat.le_of_ble_eq_true hq; omega
              have e2 : Nat.ble i 511 = false := by
                cases hq : Nat.ble i 511 with
                | false => rfl
                | true => have := Nat.le_of_ble_eq_true hq; omega
              have e3 : Nat.ble i 4095 = false := by
                cases hq : Nat.ble i 4095 with
                | false => rfl
                | true => have := Nat.le_of_ble_eq_true hq; omega
              rw [e1, e2, e3, he]; rfl
            unfold cget
            rw [hg]
            exact avSame_eq hd
          · cases h
noncomputable def appendM (P : Program) (H : Heap) (ats : List TypeId) (s x : AV) : Option (AV × Heap) :=
  match ats with
  | [t, u] => match natOf x with
    | some n => match undT P t with
      | some (.slice e) => match undT P u with
        | some (.int _) => match infoT P e with
          | some ie => match Nat.beq ie.size 1 with
            | true => match Nat.ble ie.bytes 8 with
              | true => match zeroA P e with
                | some z => match isIntA z with
                  | true => match Nat.beq n 0 with
                    | true => match s with
                      | .nils => some (s, H)
                      | .sl .. => some (s, H)
                      | .sle .. => some (s, H)
                      | _ => none
                    | false => match Nat.ble n 1048576 with
                      | true => match s with
                        | .sl k o len _ esz => match Nat.beq esz 1 with
                          | true => match Nat.beq o 0 with
                            | true => match H.tr.get k with
                              | some (.cells c d m e') => match Nat.beq e e' with
                                | true => match Nat.ble len m with
                                  | true => match Nat.ble (Nat.add len n) 1099511627776 with
                                    | true => match zeroTail c d z len n m with
                                      | some c' => some (.sl H.next 0 (Nat.add len n) (Nat.add len n) 1, (H.kill k).add (.cells c' d (Nat.add len n) e))
                                      | none => none
                                    | false => none
                                  | false => none
                                | false => none
                              | _ => none
                            | false => none
                          | false => none
                        | _ => none
                      | false => none
                  | false => none
                | none => none
              | false => none
            | false => none
          | none => none
        | _ => none
      | _ => none
    | none => none
  | _ => none
theorem appendM_ok (hG : GR G μ ρ H w) {ats : Array TypeId} {ty : TypeId} {s x : AV} {s' x' : Value} (hs : VR μ ρ s s') (hx : VR μ ρ x x') {v : AV} {H' : Heap} (h : appendM P H ats.toList s x = some (v, H')) :
    ValOK P G μ ρ (Builtin.append_ ats ty #[s', x']) w v H' := by
  unfold appendM at h
  simp only [infoT_eq, undT_eq] at h
  split at h
  · rename_i t u hats
    have hats' : ats = #[t, u] := Array.toList_inj.1 hats
    subst hats'
    split at h
    · rename_i n hn
      obtain ⟨kx, rfl⟩ := natOf_ok hx hn
      split at h
      · rename_i e hu
        split at h
        · rename_i ik hui
          cases hie : P.info? e with
          | none => simp [hie] at h
          | some ie =>
            simp only [hie] at h
            split at h
            · rename_i hs1
              have hs1 := Nat.eq_of_beq_eq_true hs1
              split at h
              · rename_i hb8
                have hb8 := Nat.le_of_ble_eq_true hb8
                cases hz : zeroA P e with
                | none => simp [hz] at h
                | some z =>
                  simp only [hz] at h
                  obtain ⟨i, z', hi, hz', hv⟩ := zeroA_ok (μ := μ) (ρ := ρ) hz
                  rw [hie] at hi; cases hi
                  split at h
                  · rename_i hint
                    obtain ⟨kz, ez, rfl⟩ : ∃ kz ez, z = .int kz ez := by
                      unfold isIntA at hint
                      split at hint
                      · exact ⟨_, _, rfl⟩
                      · cases hint
                    obtain ⟨nz, rfl⟩ : ∃ nz, z' = .int kz nz := by cases hv; exact ⟨_, rfl⟩
                    have hzc : (Value.int kz nz).cells = #[Value.int kz nz] := rfl
                    split at h
                    · -- nothing
                      rename_i h0
                      have h0 := Nat.eq_of_beq_eq_true h0
                      subst h0
                      have hw0 : IntKind.i64.wrap (0 : Int) = 0 := IntWalk.i64_in _ ⟨by omega, by omega⟩
                      have key : ∀ (a : Option Addr) (l c : Nat), l ≤ c → (Builtin.append_ #[t, u] ty #[.slice a l c, .int kx ((0 : Nat) : Int)]).run P w = .ok (.slice a l c) w := fun a l c hlc => by
                        cases a <;> simp [Builtin.append_, run_underlying hu, run_underlying hui, Go.sizeOf, typeInfo, hie, asInt, asIntOf, hw0, hlc, storeCells]
                      split at h
                      · cases h; cases hs; exact ValOK.pure hG (key _ _ _ (Nat.le_refl _)) .nils
                      · cases h
                        cases hs with
                        | sl hb h1 h2 h3 => exact ValOK.pure hG (key _ _ _ (by omega)) (.sl hb h1 h2 h3)
                      · cases h
                        cases hs with
                        | sle hb => exact ValOK.pure hG (key _ _ _ (Nat.le_refl _)) (.sle hb)
                      · cases h
                    · rename_i h0
                      have hn0 : 0 < n := by
                        rcases Nat.eq_zero_or_pos n with hq | hq
                        · rw [hq] at h0; cases h0
                        · exact hq
                      split at h
                      · rename_i hbig
                        have hbig := Nat.le_of_ble_eq_true hbig
                        split at h
                        · rename_i k o len cap esz
                          cases hs with
                          | @sl _ _ _ _ _ b nb cap' hb c1 c2 c3 =>
                          split at h
                          · rename_i hes
                            have hes := Nat.eq_of_beq_eq_true hes
                            subst hes
                            split at h
                            · rename_i ho0
                              have ho0 := Nat.eq_of_beq_eq_true ho0
                              subst ho0
                              split at h
                              · rename_i c d m e' hk
                                split at h
                                · rename_i hee
                                  have hee := Nat.eq_of_beq_eq_true hee
                                  subst hee
                                  split at h
                                  · rename_i hm
                                    have hm := Nat.le_of_ble_eq_true hm
                                    split at h
                                    · rename_i b2
                                      have b2 := Nat.le_of_ble_eq_true b2
                                      split at h
                                      · rename_i c' hc'
                                        cases h
                                        simp only [Nat.add_eq] at b2 ⊢
                                        obtain ⟨t1, t2⟩ := zeroTail_ok hm hc'
                                        obtain ⟨b1', n1, x1, e1, _, e3, arr, hxe, e4, e5, e6⟩ := hG.obj k _ hk
                                        rw [hb] at e1; cases e1
                                        subst hxe
                                        obtain ⟨Z, hZ⟩ : ∃ Z, Z = Builtin.zeroCells #[Value.int kz nz] n := ⟨_, rfl⟩
                                        have hZs : Z.size = n := by rw [hZ, zeroCells_size]; simp
                                        have hZg : ∀ i, i < n → Z[i]? = some (.int kz nz) := fun i hi => by
                                          rw [hZ, ← Array.getElem?_toList, zeroCells_list _ n (by simp), repA_get _ (by simp) n i (by simpa using hi)]
                                          simp [Nat.mod_one]
                                        have hwr : IntKind.i64.wrap (n : Int) = n := IntWalk.i64_in _ ⟨by omega, by omega⟩
                                        have hbytes : n * ie.bytes ≤ 1048576 * 8 := Nat.mul_le_mul hbig hb8
                                        have hb'' : ¬ (281474976710656 < (n : Int) * (ie.bytes : Int)) := by
                                          have : ((n * ie.bytes : Nat) : Int) ≤ 8388608 := by omega
                                          rw [Int.natCast_mul] at this; omega
                                        have hnn : ¬ ((n : Int) < 0) := by omega
                                        have hn00 : n ≠ 0 := by omega
                                        have newOK : ∀ (a2 : Array Value), (∀ i, i < len → a2[i]? = arr[i]?) → (∀ i, i < n → a2[len + i]? = Z[i]?) →
                                            ∀ i, i < len + n → ∃ v', a2[i]? = some v' ∧ VR μ ρ (cget c' d i) v' := fun a2 h1 h2 i hi => by
                                          by_cases hil : i < len
                                          · obtain ⟨v', q1, q2⟩ := e6 i (by omega)
                                            rw [t1 i hil, h1 i hil]
                                            exact ⟨v', q1, q2⟩
                                          · rw [t2 i (by omega) hi]
                                            have := h2 (i - len) (by omega)
                                            rw [show len + (i - len) = i by omega, hZg _ (by omega)] at this
                                            exact ⟨_, this, hv⟩
                                        by_cases hcap : len + n ≤ cap'
                                        · have hfit : len + 0 + Z.toList.length ≤ arr.size := by simp [hZs]; omega
                                          have hst := run_storeCells_at P b len e Z.toList 0 arr w e3 hfit (fun v hv => by
                                            obtain ⟨i, hi⟩ := List.mem_iff_getElem?.1 hv
                                            rw [Array.getElem?_toList] at hi
                                            have hlt : i < n := by
                                              rcases Nat.lt_or_ge i n with h | h
                                              · exact h
                                              · rw [Array.getElem?_eq_none (by omega)] at hi; cases hi
                                            rw [hZg i hlt] at hi
                                            cases hi; rfl)
                                          simp only [Nat.add_zero, Array.length_toList, hZs] at hst
                                          obtain ⟨A, hA⟩ : ∃ A, A = (arr.toList.take len ++ Z.toList ++ arr.toList.drop (len + n)).toArray := ⟨_, rfl⟩
                                          rw [← hA] at hst
                                          have hrun : (Builtin.append_ #[t, u] ty #[.slice (some ⟨b, 0, none⟩) len cap', .int kx (n : Int)]).run P w = .ok (.slice (some ⟨b, 0, none⟩) (len + n) cap') (w.setRow b A) := by
                                            simp [Builtin.append_, run_underlying hu, run_underlying hui, Go.sizeOf, typeInfo, zeroValue, hie, hz', asInt, asIntOf, hwr, hnn, hb'', hn00, hs1, hcap, hzc, ← hZ, Addr.add_lit, hst]
                                          have hAs : A.size = nb := by rw [hA]; simp [hZs]; omega
                                          have hA1 : ∀ i, i < len → A[i]? = arr[i]? := fun i hi => by
                                            rw [hA]; simp only [List.getElem?_toArray]
                                            rw [List.append_assoc, List.getElem?_append_left (by simp; omega), List.getElem?_take, if_pos hi]; simp
                                          have hA2 : ∀ i, i < n → A[len + i]? = Z[i]? := fun i hi => by
                                            rw [hA]; simp only [List.getElem?_toArray]
                                            rw [List.append_assoc, List.getElem?_append_right (by simp; omega), List.getElem?_append_left (by simp [hZs]; omega), Array.getElem?_toList]
                                            congr 1; simp; omega
                                          have ho : OR μ ρ nb (.cells A e (0, 0)) (.cells c' d (len + n) e) := ⟨A, rfl, hAs, by omega, newOK A hA1 hA2⟩
                                          obtain ⟨g1, g2, g3⟩ := hG.move (w' := w.setRow b A) hk hb (fun b' hne => setRow_other _ _ _ _ hne) (setRow_heap w b arr A e (0, 0) e3) (by simp) ho rfl rfl rfl
                                          exact ⟨_, _, _, hrun, g2, .sl (Mu.upd_self _ _ _) hcap (by simpa using c2) (Nat.le_refl _), g1, g3⟩
                                        · have holds : ∃ olds : List Value, olds.length = len * ie.size ∧ (∀ j v, olds[j]? = some v → w.cell? ((⟨b, 0, none⟩ : Addr).add j) = some v) ∧ ∀ i, i < len → olds[i]? = arr[i]? := by
                                            refine ⟨arr.toList.take len, by rw [hs1]; simp; omega, fun j v hj => ?_, fun i hi => ?_⟩
                                            · rw [addr_add]
                                              rw [List.getElem?_take] at hj
                                              split at hj
                                              · simp [World.cell?, e3]; simpa using hj
                                              · cases hj
                                            · rw [List.getElem?_take, if_pos hi]; simp
                                          obtain ⟨olds, hol, hoc, hoa⟩ := holds
                                          have hfits : Builtin.nextslicecap (len + n) cap' * ie.bytes ≤ 281474976710656 := growslice_fits (by omega) (by
                                            have : (len + n) * ie.bytes ≤ 1099511627776 * 8 := Nat.mul_le_mul b2 hb8
                                            omega)
                                          have h48 : ¬ (281474976710656 < Builtin.nextslicecap (len + n) cap' * ie.bytes) := by omega
                                          have h63 : ¬ (9223372036854775807 < ((len : Int) + (n : Int))) := by omega
                                          have hgc := grownCap_ge w (len + n) cap' e
                                          obtain ⟨gc, hgce⟩ : ∃ gc, gc = grownCap w (len + n) cap' e := ⟨_, rfl⟩
                                          rw [← hgce] at hgc
                                          have hf := run_firstCells_some (P := P) w.drew ie.size len ⟨b, 0, none⟩ len cap' olds hol (by simpa using hoc)
                                          rw [hs1] at hf
                                          obtain ⟨A, hA⟩ : ∃ A, A = olds.toArray ++ Z ++ Builtin.zeroCells #[Value.int kz nz] (gc - (len + n)) := ⟨_, rfl⟩
                                          have hrun : (Builtin.append_ #[t, u] ty #[.slice (some ⟨b, 0, none⟩) len cap', .int kx (n : Int)]).run P w = .ok (.slice (some ⟨w.heap.size, 0, none⟩) (len + n) gc) (w.drew.alloc (.cells A e (0, 0))) := by
                                            rw [hA, hgce]
                                            simp [Builtin.append_, run_underlying hu, run_underlying hui, Go.sizeOf, typeInfo, zeroValue, hie, hz', asInt, asIntOf, hwr, hnn, hb'', hn00, hs1, hcap, hzc, ← hZ, h63, h48, Question.forced, hf, newRow, grownCap]
                                          rw [hs1, Nat.mul_one] at hol
                                          have hAs : A.size = gc * 1 := by
                                            rw [hA]; simp only [Array.size_append, List.size_toArray, zeroCells_size, hol, hZs]
                                            simp; omega
                                          have hA1 : ∀ i, i < len → A[i]? = arr[i]? := fun i hi => by
                                            rw [hA, Array.append_assoc, Array.getElem?_append_left (by simp; omega), ← hoa i hi]; simp
                                          have hA2 : ∀ i, i < n → A[len + i]? = Z[i]? := fun i hi => by
                                            rw [hA, Array.append_assoc, Array.getElem?_append_right (by simp; omega), Array.getElem?_append_left (by simp [hZs, hol]; omega)]
                                            simp [hol]
                                          have ho : OR μ ρ (gc * 1) (.cells A e (0, 0)) (.cells c' d (len + n) e) := ⟨A, rfl, hAs, by omega, newOK A hA1 hA2⟩
                                          obtain ⟨g1, g2, g3⟩ := (hG.drew.kill k).alloc ho
                                          exact ⟨_, _, _, hrun, g2, .sl (Mu.upd_self _ _ _) hgc (by simp) (Nat.le_refl _), g1, (Fr.drew G w).trans g3⟩
                                      · cases h
                                    · cases h
                                  · cases h
                                · cases h
                              · cases h
                            · cases h
                          · cases h
                        · cases h
                      · cases h
                  · cases h
              · cases h
            · cases h
        · cases h
      · cases h
    · cases h
  · cases h
noncomputable def appendX (P : Program) (H : Heap) (ats : List TypeId) (s x : AV) : Option (AV × Heap) :=
  match strL x with
  | some _ => appendS P H ats s x
  | none => match appendM P H ats s x with
    | some r => some r
    | none => match s with
      | .sle k o => appendE P H ats k o x
      | s => appendB P H ats s x
theorem appendX_ok (hG : GR G μ ρ H w) {ats : Array TypeId} {ty : TypeId} {s x : AV} {s' x' : Value} (hs : VR μ ρ s s') (hx : VR μ ρ x x') {v : AV} {H' : Heap} (h : appendX P H ats.toList s x = some (v, H')) :
    ValOK P G μ ρ (Builtin.append_ ats ty #[s', x']) w v H' := by
  unfold appendX at h
  split at h
  · exact appendS_ok hG hs hx h
  · split at h
    · rename_i r hr
      cases h
      exact appendM_ok hG hs hx hr
    · split at h
      · exact appendE_ok hG hs hx h
      · exact appendB_ok hG hs hx h
end
end Vx

/-! copy; operators; conversions; interfaces. -/
namespace Vx
open Go
section
variable {P : Program} {G : Gd} {μ : Mu} {ρ : Env} {H : Heap} {w : World}

/-! ### copy -/
noncomputable def copyA (P : Program) (H : Heap) (ats : List TypeId) (dst src : AV) : Option (AV × Heap) :=
  match nth ats 0 with
  | some t => match undT P t with
    | some (.slice e) => match infoT P e with
      | some ie => match dst with
        | .sl kd od ld _ _ => match src with
          | .sl k o len _ _ => match H.tr.get k with
            | some (.cells c d m _) => match Nat.ble (Nat.add o (Nat.mul (Nat.min len ld) ie.size)) m with
              | true => match storeCellsA H kd od (cellsFrom c d o (Nat.mul (Nat.min len ld) ie.size)) with
                | some H' => some (.int .i64 (.lit (Int.ofNat (Nat.min len ld))), H')
                | none => none
              | false => none
            | _ => none
          | .nils => some (.int .i64 (.lit (Int.ofNat 0)), H)
          | src => match strL src with
            | some l => match Nat.ble l.length ld with
              | true => match storeCellsA H kd od (l.map (AV.int .u8)) with
                | some H' => some (.int .i64 (.lit (Int.ofNat l.length)), H')
                | none => none
              | false => none
            | none => none
        | _ => none
      | none => none
    | _ => none
  | none => none
theorem copy_ok (hG : GR G μ ρ H w) {ats : Array TypeId} {ty : TypeId} {x y : AV} {x' y' : Value} (hx : VR μ ρ x x') (hy : VR μ ρ y y') {v : AV} {H' : Heap} (h : copyA P H ats.toList x y = some (v, H')) :
    ValOK P G μ ρ (Builtin.copy_ ats ty #[x', y']) w v H' := by
  unfold copyA at h
  simp only [infoT_eq, undT_eq] at h
  split at h
  · rename_i t ht
    rw [nth_eq] at ht
    have ht' : ats[0]? = some t := by simpa using ht
    split at h
    · rename_i e hu
      cases hie : P.info? e with
      | none => simp [hie] at h
      | some ie =>
        simp only [hie] at h
        split at h
        · rename_i kd od ld capd eszd
          cases hx with
          | @sl _ _ _ _ _ bd nd capd' hbd _ _ _ =>
          split at h
          · rename_i k o len cap esz
            cases hy with
            | @sl _ _ _ _ _ b n cap' hb _ _ _ =>
            split at h
            · rename_i c d m e0 hk
              split at h
              · rename_i hle
                split at h
                · rename_i H2 hst
                  cases h
                  obtain ⟨cs, hl, hc, hr⟩ := cells_at hG hk hb o (Nat.min len ld * ie.size) (Nat.le_of_ble_eq_true hle)
                  obtain ⟨w', q1, q2, q3⟩ := storeCellsA_ok (P := P) hbd _ cs H w od 0 ⟨bd, od, none⟩ _ hG hr hst rfl rfl (Nat.zero_le _)
                  have hf := run_firstCells_some (P := P) w ie.size (Nat.min len ld) ⟨b, o, none⟩ len cap' cs hl (fun j v hv => by rw [addr_add]; exact hc j v hv)
                  refine ⟨_, w', μ, ?_, Mu.le_refl _, .int rfl, q2, q3⟩
                  simp [Builtin.copy_, ht', run_underlying hu, Go.sizeOf, typeInfo, hie, Builtin.lenOf, hf, q1, goInt, SE.val]
                · cases h
              · cases h
            · cases h
          · cases h
            cases hy
            refine ValOK.pure hG (v' := .int .i64 0) ?_ (.int rfl)
            simp [Builtin.copy_, ht', run_underlying hu, Go.sizeOf, typeInfo, hie, Builtin.lenOf, Builtin.firstCells, storeCells, goInt]
          · split at h
            · rename_i l hl
              obtain ⟨st, rfl, hsv⟩ := strL_ok hy hl
              have hlen := hsv.len
              have hcells := hsv.cells (μ := μ)
              split at h
              · rename_i hle
                have hle := Nat.le_of_ble_eq_true hle
                split at h
                · rename_i H2 hst
                  cases h
                  obtain ⟨w', q1, q2, q3⟩ := storeCellsA_ok (P := P) hbd _ _ H w od 0 ⟨bd, od, none⟩ _ hG hcells hst rfl rfl (Nat.zero_le _)
                  have hf := Lib.run_firstCells_string (P := P) w ie.size st
                  have hmin : Nat.min st.size ld = st.size := Nat.min_eq_left (by omega)
                  refine ⟨_, w', μ, ?_, Mu.le_refl _, .int rfl, q2, q3⟩
                  simp [Builtin.copy_, ht', run_underlying hu, Go.sizeOf, typeInfo, hie, Builtin.lenOf, hmin, hf, q1, goInt, SE.val, hlen]
                · cases h
              · cases h
            · cases h
        · cases h
    · cases h
  · cases h

/-! ### clear, of slices -/
noncomputable def clrA (P : Program) (H : Heap) (ats : List TypeId) (x : AV) : Option (AV × Heap) :=
  match nth ats 0 with
  | some t => match undT P t with
    | some (.slice e) => match x with
      | .sl k o len _ _ => match len with
        | 0 => some (.tup [], H)
        | m + 1 => match zeroA P e with
          | some z => match Nat.ble 1 z.cells.length with
            | true => match storeCellsA H k o (repA z.cells (m + 1)) with
              | some H' => some (.tup [], H')
              | none => none
            | false => none
          | none => none
      | .nils => some (.tup [], H)
      | _ => none
    | _ => none
  | none => none
theorem clr_ok (hG : GR G μ ρ H w) {ats : Array TypeId} {ty : TypeId} {x : AV} {x' : Value} (hx : VR μ ρ x x') {v : AV} {H' : Heap} (h : clrA P H ats.toList x = some (v, H')) :
    ValOK P G μ ρ (Builtin.clear_ ats ty #[x']) w v H' := by
  unfold clrA at h
  simp only [undT_eq] at h
  split at h
  · rename_i t ht
    rw [nth_eq] at ht
    have ht' : ats[0]? = some t := by simpa using ht
    split at h
    · rename_i e hu
      split at h
      · rename_i k o len cap esz
        cases hx with
        | @sl _ _ _ _ _ b n cap' hb _ _ _ =>
        cases len with
        | zero =>
          cases h
          refine ValOK.pure hG (v' := .tuple #[]) ?_ (.tup .nil)
          simp [Builtin.clear_, ht', run_underlying hu]
        | succ m =>
          dsimp only at h
          split at h
          · rename_i z hz
            split at h
            · rename_i hl
              split at h
              · rename_i H2 hst
                cases h
                obtain ⟨i, z', h1, h2, h3⟩ := zeroA_ok (μ := μ) (ρ := ρ) hz
                have hc := h3.cells
                have hl2 : 0 < z'.cells.size := by
                  have := hc.length
                  have := Nat.le_of_ble_eq_true hl
                  simp at *; omega
                obtain ⟨w', q1, q2, q3⟩ := storeCellsA_ok (P := P) hb _ _ H w o 0 ⟨b, o, none⟩ _ hG (hc.rep (m + 1)) hst rfl rfl (Nat.zero_le _)
                refine ⟨.tuple #[], w', μ, ?_, Mu.le_refl _, .tup .nil, q2, q3⟩
                simp [Builtin.clear_, ht', run_underlying hu, run_zero h1 h2, zeroCells_list z'.cells (m + 1) hl2, q1]
              · cases h
            · cases h
          · cases h
      · cases h
        cases hx
        refine ValOK.pure hG (v' := .tuple #[]) ?_ (.tup .nil)
        simp [Builtin.clear_, ht', run_underlying hu]
      · cases h
    · cases h
  · cases h

/-! ### Operators on whole numbers -/
noncomputable def kindB (k k' : IntKind) : Bool := Nat.beq k.ctorIdx k'.ctorIdx
theorem kindB_eq {k k' : IntKind} (h : kindB k k' = true) : k = k' := by
  cases k <;> cases k' <;> first | rfl | (exact absurd h (by decide))
/-- As binVal, quicker where the numbers are not below zero. -/
noncomputable def binF (op : BinOp) (k : IntKind) (x y : Int) : Int :=
  match op with
  | .add => wrapF k (Int.add x y)
  | .sub => wrapF k (Int.sub x y)
  | .mul => wrapF k (Int.mul x y)
  | .and => match k with
    | .i64 => match x with
      | .ofNat m => match y with
        | .ofNat n => match Nat.ble n 9223372036854775807 with
          | true => Int.ofNat (Nat.land m n)
          | false => binVal .and .i64 x y
        | _ => binVal .and .i64 x y
      | _ => binVal .and .i64 x y
    | k => binVal .and k x y
  | .rem => match x with
    | .ofNat m => match y with
      | .ofNat n => Int.ofNat (Nat.mod m n)
      | _ => binVal .rem k x y
    | _ => binVal .rem k x y
  | op => binVal op k x y
theorem land_i64 (m n : Nat) (hn : n ≤ 9223372036854775807) : IntKind.i64.wrap (((BitVec.ofInt 64 (m : Int)) &&& (BitVec.ofInt 64 (n : Int))).toNat : Int) = ((m &&& n : Nat) : Int) := by
  have h1 : (m &&& n) ≤ n := Nat.and_le_right
  have h2 : ((BitVec.ofInt 64 (m : Int)) &&& (BitVec.ofInt 64 (n : Int))).toNat = m &&& n := by
    rw [BitVec.toNat_and, BitVec.toNat_ofInt, BitVec.toNat_ofInt]
    have e1 : ((m : Int) % ((2 ^ 64 : Nat) : Int)).toNat = m % 2 ^ 64 := by omega
    have e2 : ((n : Int) % ((2 ^ 64 : Nat) : Int)).toNat = n % 2 ^ 64 := by omega
    rw [e1, e2, ← Nat.and_mod_two_pow, Nat.mod_eq_of_lt (by omega)]
  rw [h2]
  exact IntWalk.i64_in _ ⟨by omega, by omega⟩
theorem binF_eq (op : BinOp) (k : IntKind) (x y : Int) : binF op k x y = binVal op k x y := by
  unfold binF
  split
  · rw [wrapF_eq]; rfl
  · rw [wrapF_eq]; rfl
  · rw [wrapF_eq]; rfl
  · split
    · split
      · split
        · split
          · rename_i hn
            exact (land_i64 _ _ (Nat.le_of_ble_eq_true hn)).symm
          · rfl
        · rfl
      · rfl
    · rfl
  · split
    · split
      · simp only [binVal]; rfl
      · rfl
    · rfl
  · rfl
/-- No number of a block is in it. -/
noncomputable def closedS (v : AV) : Bool :=
  match v with
  | .bool _ => true
  | .int .. => true
  | .float .. => true
  | .str _ => true
  | .ustr _ => true
  | .nilp => true
  | .nils => true
  | .nilm => true
  | .nilf => true
  | .nili => true
  | .anys => true
  | .inp .. => true
  | .xp _ => true
  | .ostr _ => true
  | .zstr _ => true
  | .cstr .. => true
  | _ => false
noncomputable def closedL : List AV → Bool
  | [] => true
  | v :: r => match closedS v with
    | true => closedL r
    | false => false
theorem closedS_ok {μ μ' : Mu} {v : AV} {v' : Value} (h : closedS v = true) (hv : VR μ ρ v v') : VR μ' ρ v v' := by
  cases hv <;> first | (simp [closedS] at h; done) | (constructor <;> assumption)
theorem closedL_ok {μ μ' : Mu} : ∀ {l : List AV} {l' : List Value}, closedL l = true → VRs μ ρ l l' → VRs μ' ρ l l'
  | _, _, _, .nil => .nil
  | _, _, h, .cons hv hs => by
    simp only [closedL] at h
    split at h
    · rename_i h1; exact .cons (closedS_ok h1 hv) (closedL_ok h hs)
    · cases h
/-- Functions that have no body. -/
inductive Ext : Type where
  | same
  | noZero (t e : TypeId)
  | fn (F : List AV → Option AV)
def Ext.OK (P : Program) (f : FuncId) : Ext → Prop
  | .same => ∀ (v : Value) (w : World), (callFunc f #[v]).run P w = .ok (.value v) w
  | .noZero t e => P.underlying t = some (.slice e) ∧ ∃ ps, ∀ (args : Array Value) (w : World), (callFunc f args).run P w = ((Extern.BytealgMakeNoZero.makeNoZero ps #[t] args).run P w).andThen fun v w' => .ok (.value v) w'
  | .fn F => ∀ (l : List AV) (v : AV), F l = some v → ∀ (μ : Mu) (ρ : Env) (l' : List Value), VRs μ ρ l l' → ∀ (w : World), ∃ v', (callFunc f l'.toArray).run P w = .ok (.value v') w ∧ VR μ ρ v v'
/-- What is known from outside: comparisons of numbers that are not known; what such a number is; what a call comes to. -/
structure Dec : Type where
  cmp : BinOp → SE → SE → Option Bool
  red : SE → SE
  plug : FuncId → List AV → Option AV
  ext : FuncId → Option Ext
  hp : FuncId → List AV → Heap → Option (AV × Heap)
structure Dec.OK (D : Dec) (P : Program) (ρ : Env) : Prop where
  cmp : ∀ op x y r, D.cmp op x y = some r → ∀ (P : Program) (w : World), (Op.intCmp op (x.val ρ) (y.val ρ)).run P w = .ok (.bool r) w
  red : ∀ e, (D.red e).val ρ = e.val ρ
  plug : ∀ f args v, D.plug f args = some v → ∀ args', VRs (fun _ => none) ρ args args' → ∀ (w : World) (c : Frame) (cs : List Frame), ∃ v' w', VR (fun _ => none) ρ v v' ∧ Fr ⟨fun b => b < w.heap.size, fun _ => False⟩ w w' ∧
    Steps P (lone (Frame.enter P f args'.toArray .normal) (c :: cs) w) (lone (c.finish v') cs w')
  ext : ∀ f x, D.ext f = some x → Ext.OK P f x
  hp : ∀ f args H v H', D.hp f args H = some (v, H') → ∀ (G : Gd) (μ : Mu) (w : World) (args' : List Value), GR G μ ρ H w → VRs μ ρ args args' → ∀ (c : Frame) (cs : List Frame), ∃ v' w' μ', Mu.le μ μ' ∧ VR μ' ρ v v' ∧ GR G μ' ρ H' w' ∧ Fr G w w' ∧
    Steps P (lone (Frame.enter P f args'.toArray .normal) (c :: cs) w) (lone (c.finish v') cs w')
noncomputable def plugA (D : Dec) (f : FuncId) (args : List AV) : Option AV :=
  match D.plug f args with
  | none => none
  | some v => match closedL args with
    | true => some v
    | false => none
theorem plug_ok {D : Dec} {μ : Mu} (hD : D.OK P ρ) {f : FuncId} {args : List AV} {v : AV} (h : plugA D f args = some v) {args' : List Value} (ha : VRs μ ρ args args') (w : World) (c : Frame) (cs : List Frame) :
    ∃ v' w', VR μ ρ v v' ∧ Fr ⟨fun b => b < w.heap.size, fun _ => False⟩ w w' ∧ Steps P (lone (Frame.enter P f args'.toArray .normal) (c :: cs) w) (lone (c.finish v') cs w') := by
  unfold plugA at h
  split at h
  · cases h
  · rename_i u hu
    split at h
    · rename_i hc
      cases h
      obtain ⟨v', w', q1, q2, q3⟩ := hD.plug f args v hu args' (closedL_ok hc ha) w c cs
      exact ⟨v', w', q1.mono (fun _ _ h => by cases h), q2, q3⟩
    · cases h
noncomputable def arith (D : Dec) (op : BinOp) (k : IntKind) (x y : SE) : SE :=
  match x with
  | .lit a => match y with
    | .lit b => .lit (binF op k a b)
    | y => D.red (.bin op k (.lit a) y)
  | x => D.red (.bin op k x y)
theorem arith_val {D : Dec} (hD : D.OK P ρ) (op : BinOp) (k : IntKind) (x y : SE) : (arith D op k x y).val ρ = binVal op k (x.val ρ) (y.val ρ) := by
  unfold arith
  split
  · split
    · simp [SE.val, binF_eq]
    · rw [hD.red]; rfl
  · rw [hD.red]; rfl
/-- A number that is known and not zero. -/
noncomputable def notZ (y : SE) : Bool :=
  match y with
  | .lit n => match n with
    | .ofNat m => match m with
      | 0 => false
      | _ + 1 => true
    | .negSucc _ => true
  | _ => false
noncomputable def geZ (y : SE) : Bool :=
  match y with
  | .lit n => match n with
    | .ofNat _ => true
    | .negSucc _ => false
  | _ => false
noncomputable def cmpA (D : Dec) (op : BinOp) (x y : SE) : Option Bool :=
  match x with
  | .lit a => match y with
    | .lit b => match op with
      | .eql => some (ibeq a b)
      | .neq => some (not (ibeq a b))
      | .lss => some (iblt a b)
      | .leq => some (not (iblt b a))
      | .gtr => some (iblt b a)
      | .geq => some (not (iblt a b))
      | _ => none
    | y => D.cmp op (.lit a) y
  | x => D.cmp op x y
theorem le_not (a b : Int) : decide (a ≤ b) = !decide (b < a) := by by_cases hc : a ≤ b <;> simp [hc] <;> omega
theorem ge_not (a b : Int) : decide (a ≥ b) = !decide (a < b) := by by_cases hc : a ≥ b <;> simp [hc] <;> omega
theorem cmp_ok {D : Dec} (hD : D.OK P ρ) {op : BinOp} {x y : SE} {r : Bool} (h : cmpA D op x y = some r) : (Op.intCmp op (x.val ρ) (y.val ρ)).run P w = .ok (.bool r) w := by
  unfold cmpA at h
  split at h
  · split at h
    · simp only [SE.val]
      split at h <;> cases h
      · rw [ibeq_eq]; rfl
      · rw [ibeq_eq]; rfl
      · rw [iblt_eq]; rfl
      · rw [iblt_eq, ← le_not]; rfl
      · rw [iblt_eq]; rfl
      · rw [iblt_eq, ← ge_not]; rfl
    · exact hD.cmp _ _ _ _ h P w
  · exact hD.cmp _ _ _ _ h P w
/-- A number that is known not to be less than zero. -/
noncomputable def geD (D : Dec) (y : SE) : Bool :=
  match geZ y with
  | true => true
  | false => match y with
    | .lit _ => false
    | _ => match D.cmp .lss y (.lit 0) with
      | some false => true
      | _ => false
noncomputable def intBinA (D : Dec) (op : BinOp) (k : IntKind) (x : SE) (k' : IntKind) (y : SE) : Option AV :=
  match op with
  | .shl => match geD D y with
    | true => some (.int k (arith D .shl k x y))
    | false => none
  | .shr => match geD D y with
    | true => some (.int k (arith D .shr k x y))
    | false => none
  | .quo => match kindB k k' with
    | true => match notZ y with
      | true => some (.int k (arith D .quo k x y))
      | false => none
    | false => none
  | .rem => match kindB k k' with
    | true => match notZ y with
      | true => some (.int k (arith D .rem k x y))
      | false => none
    | false => none
  | .add => match kindB k k' with
    | true => some (.int k (arith D .add k x y))
    | false => none
  | .sub => match kindB k k' with
    | true => some (.int k (arith D .sub k x y))
    | false => none
  | .mul => match kindB k k' with
    | true => some (.int k (arith D .mul k x y))
    | false => none
  | .and => match kindB k k' with
    | true => some (.int k (arith D .and k x y))
    | false => none
  | .or => match kindB k k' with
    | true => some (.int k (arith D .or k x y))
    | false => none
  | .xor => match kindB k k' with
    | true => some (.int k (arith D .xor k x y))
    | false => none
  | .andNot => match kindB k k' with
    | true => some (.int k (arith D .andNot k x y))
    | false => none
  | op => match kindB k k' with
    | true => match cmpA D op x y with
      | some r => some (.bool r)
      | none => none
    | false => none
theorem intBin_ok {D : Dec} (hD : D.OK P ρ) {op : BinOp} {k k' : IntKind} {x y : SE} {v : AV} (h : intBinA D op k x k' y = some v) (t : TypeId) :
    ∃ v', (binOp op t (.int k (x.val ρ)) (.int k' (y.val ρ))).run P w = .ok v' w ∧ VR μ ρ v v' := by
  unfold intBinA at h
  have hz : ∀ {y : SE}, notZ y = true → y.val ρ ≠ 0 := fun {y} hy => by
    unfold notZ at hy
    split at hy
    · split at hy
      · split at hy
        · cases hy
        · simp [SE.val]; omega
      · simp [SE.val]
    · cases hy
  have hg : ∀ {y : SE}, geD D y = true → ¬ (y.val ρ < 0) := fun {y} hy => by
    unfold geD at hy
    split at hy
    · rename_i hz
      unfold geZ at hz
      split at hz
      · split at hz
        · simp [SE.val]
        · cases hz
      · cases hz
    · split at hy
      · cases hy
      split at hy
      · rename_i hc
        have h1 := hD.cmp _ _ _ _ hc P w
        have h2 : (pure (Value.bool (decide (y.val ρ < 0))) : Sem Value).run P w = .ok (.bool false) w := h1
        intro hlt
        rw [decide_eq_true hlt] at h2
        simp at h2
      · cases hy
  split at h
  · split at h <;> cases h
    rename_i hy
    refine ⟨_, ?_, .int (arith_val hD _ _ _ _)⟩
    simp only [binOp, Op.shift]; rw [if_neg (hg hy)]; simp [binVal]
  · split at h <;> cases h
    rename_i hy
    refine ⟨_, ?_, .int (arith_val hD _ _ _ _)⟩
    simp only [binOp, Op.shift]; rw [if_neg (hg hy)]; simp [binVal]
  · split at h
    · rename_i hk
      have := kindB_eq hk; subst this
      split at h <;> cases h
      rename_i hy
      refine ⟨_, ?_, .int (arith_val hD _ _ _ _)⟩
      simp [binOp, Op.intDiv, hz hy, binVal]
    · cases h
  · split at h
    · rename_i hk
      have := kindB_eq hk; subst this
      split at h <;> cases h
      rename_i hy
      refine ⟨_, ?_, .int (arith_val hD _ _ _ _)⟩
      simp [binOp, Op.intDiv, hz hy, binVal]
    · cases h
  · split at h <;> cases h
    rename_i hk
    have := kindB_eq hk; subst this
    exact ⟨_, by simp [binOp, Op.intArith, binVal], .int (arith_val hD _ _ _ _)⟩
  · split at h <;> cases h
    rename_i hk
    have := kindB_eq hk; subst this
    exact ⟨_, by simp [binOp, Op.intArith, binVal], .int (arith_val hD _ _ _ _)⟩
  · split at h <;> cases h
    rename_i hk
    have := kindB_eq hk; subst this
    exact ⟨_, by simp [binOp, Op.intArith, binVal], .int (arith_val hD _ _ _ _)⟩
  · split at h <;> cases h
    rename_i hk
    have := kindB_eq hk; subst this
    exact ⟨_, by simp only [binOp, Op.intBits, binVal]; simp, .int (arith_val hD _ _ _ _)⟩
  · split at h <;> cases h
    rename_i hk
    have := kindB_eq hk; subst this
    exact ⟨_, by simp only [binOp, Op.intBits, binVal]; simp, .int (arith_val hD _ _ _ _)⟩
  · split at h <;> cases h
    rename_i hk
    have := kindB_eq hk; subst this
    exact ⟨_, by simp only [binOp, Op.intBits, binVal]; simp, .int (arith_val hD _ _ _ _)⟩
  · split at h <;> cases h
    rename_i hk
    have := kindB_eq hk; subst this
    exact ⟨_, by simp only [binOp, Op.intBits, binVal]; simp, .int (arith_val hD _ _ _ _)⟩
  · rename_i n1 n2 n3 n4 n5 n6 n7 n8 n9 n10 n11
    split at h
    · rename_i hk
      have := kindB_eq hk; subst this
      split at h
      · rename_i r hr
        cases h
        have hc := cmp_ok (P := P) (w := w) hD hr
        refine ⟨.bool r, ?_, .bool⟩
        cases op <;> first
          | (exact absurd rfl (by assumption))
          | (simpa [binOp] using hc)
      · cases h
    · cases h

/-! ### Equality of other values; nil -/
noncomputable def bytesB : List UInt8 → List UInt8 → Bool
  | [], [] => true
  | [], _ :: _ => false
  | _ :: _, [] => false
  | a :: r, b :: s => match Nat.beq a.toNat b.toNat with
    | true => bytesB r s
    | false => false
theorem bytesB_eq : ∀ (a b : List UInt8), bytesB a b = (a == b)
  | [], [] => rfl
  | [], _ :: _ => rfl
  | _ :: _, [] => rfl
  | a :: r, b :: s => by
    simp only [bytesB]
    split
    · rename_i h
      have : a = b := UInt8.toNat_inj.1 (Nat.eq_of_beq_eq_true h)
      rw [bytesB_eq r s, this]; simp
    · rename_i h
      have : a ≠ b := fun e => by subst e; simp at h
      symm; simp [this]
/-- Are values of a type one? -/
noncomputable def eqA (P : Program) (t : TypeId) (a b : AV) : Option Bool :=
  match undT P t with
  | some .bool => match a with
    | .bool p => match b with
      | .bool q => some (Bool.rec (motive := fun _ => Bool) (not q) q p)
      | _ => none
    | _ => none
  | some .string => match a with
    | .str s => match b with
      | .str u => some (bytesB s.data.toList u.data.toList)
      | _ => none
    | _ => none
  | some (.pointer _) => match a with
    | .nilp => match b with
      | .nilp => some true
      | .ptr .. => some false
      | _ => none
    | .ptr .. => match b with
      | .nilp => some false
      | _ => none
    | _ => none
  | some (.slice _) => match a with
    | .nils => match b with
      | .nils => some true
      | .sl .. => some false
      | _ => none
    | .sl .. => match b with
      | .nils => some false
      | _ => none
    | _ => none
  | some (.interface _) => match a with
    | .nili => match b with
      | .ifc .. => some false
      | _ => none
    | .ifc .. => match b with
      | .nili => some false
      | _ => none
    | _ => none
  | some (.func ..) => match a with
    | .nilf => match b with
      | .nilf => some true
      | .fn .. => some false
      | _ => none
    | .fn .. => match b with
      | .nilf => some false
      | _ => none
    | _ => none
  | _ => none
theorem eqIn_ok (d : Nat) {t : TypeId} {a b : AV} {a' b' : Value} (ha : VR μ ρ a a') (hb : VR μ ρ b b') {r : Bool} (h : eqA P t a b = some r) : (Op.equalIn (d + 1) t a' b').run P w = .ok r w := by
  unfold eqA at h
  simp only [undT_eq] at h
  split at h
  · rename_i hu
    split at h
    · split at h <;> cases h
      cases ha; cases hb
      rw [run_equalIn_bool w d t _ _ hu]
      rename_i p _ q
      cases p <;> cases q <;> rfl
    · cases h
  · rename_i hu
    split at h
    · split at h <;> cases h
      cases ha; cases hb
      rw [run_equalIn_string w d t _ _ hu, ByteArray.toList_eq, ByteArray.toList_eq, bytesB_eq]
    · cases h
  · rename_i e hu
    split at h
    · split at h <;> cases h <;> cases ha <;> cases hb <;> simp [Op.equalIn, run_underlying hu]
    · split at h <;> cases h <;> cases ha <;> cases hb <;> simp [Op.equalIn, run_underlying hu]
    · cases h
  · rename_i e hu
    split at h
    · split at h <;> cases h <;> cases ha <;> cases hb <;> simp [Op.equalIn, run_underlying hu]
    · split at h <;> cases h <;> cases ha <;> cases hb <;> simp [Op.equalIn, run_underlying hu]
    · cases h
  · rename_i e hu
    split at h
    · split at h <;> cases h <;> cases ha <;> cases hb <;> simp [Op.equalIn, run_underlying hu]
    · split at h <;> cases h <;> cases ha <;> cases hb <;> simp [Op.equalIn, run_underlying hu]
    · cases h
  · rename_i hu
    split at h
    · split at h <;> cases h <;> cases ha <;> cases hb <;> simp [Op.equalIn, run_underlying hu]
    · split at h <;> cases h <;> cases ha <;> cases hb <;> simp [Op.equalIn, run_underlying hu]
    · cases h
  · cases h
theorem eq_ok {t : TypeId} {a b : AV} {a' b' : Value} (ha : VR μ ρ a a') (hb : VR μ ρ b b') {r : Bool} (h : eqA P t a b = some r) : (Op.equal t a' b').run P w = .ok r w := eqIn_ok 9999 ha hb h
theorem eqA_nili (t : TypeId) : eqA P t .nili .nili = none := by unfold eqA; split <;> rfl
theorem eqA_agg (t : TypeId) (l : List AV) (b : AV) : eqA P t (.agg l) b = none := by unfold eqA; split <;> rfl
noncomputable def fkEq (a b : FloatKind) : Bool :=
  match a with
  | .f32 => match b with
    | .f32 => true
    | _ => false
  | .f64 => match b with
    | .f64 => true
    | _ => false
theorem fkEq_ok {a b : FloatKind} (h : fkEq a b = true) : a = b := by cases a <;> cases b <;> first | rfl | cases h
noncomputable def fltBin (op : BinOp) (k : FloatKind) (x y : Nat) : Option AV :=
  match op with
  | .eql => some (.bool (k.format.order x y == some .eq))
  | .neq => some (.bool (k.format.order x y != some .eq))
  | .lss => some (.bool (k.format.order x y == some .lt))
  | .leq => some (.bool (k.format.order x y == some .lt || k.format.order x y == some .eq))
  | .gtr => some (.bool (k.format.order x y == some .gt))
  | .geq => some (.bool (k.format.order x y == some .gt || k.format.order x y == some .eq))
  | _ => none
theorem fltBin_ok {op : BinOp} {k : FloatKind} {x y : Nat} {v : AV} (h : fltBin op k x y = some v) (t : TypeId) : ∃ v', (binOp op t (.float k x) (.float k y)).run P w = .ok v' w ∧ VR μ ρ v v' := by
  unfold fltBin at h
  split at h <;> first
    | (cases h; exact ⟨_, by simp only [binOp, ne_eq, not_true_eq_false, if_false, Op.floatCmp, Sem.run_pure], .bool⟩)
    | cases h
noncomputable def nanBin (op : BinOp) : Option AV :=
  match op with
  | .eql => some (.bool false)
  | .neq => some (.bool true)
  | .lss => some (.bool false)
  | .leq => some (.bool false)
  | .gtr => some (.bool false)
  | .geq => some (.bool false)
  | _ => none
theorem nanBin_ok {op : BinOp} {k : FloatKind} {x y : Nat} {v : AV} (hx : ∃ s t, k.format.read x = .nan s t) (h : nanBin op = some v) (t : TypeId) : ∃ v', (binOp op t (.float k x) (.float k y)).run P w = .ok v' w ∧ VR μ ρ v v' := by
  have ho : k.format.order x y = none := by
    obtain ⟨s, t, e⟩ := hx
    unfold Ieee.Format.order
    rw [e]; rfl
  unfold nanBin at h
  split at h <;> first
    | (cases h; exact ⟨_, by simp only [binOp, ne_eq, not_true_eq_false, if_false, Op.floatCmp, Sem.run_pure, ho]; rfl, .bool⟩)
    | cases h
noncomputable def binA (P : Program) (D : Dec) (op : BinOp) (t : TypeId) (a b : AV) : Option AV :=
  match a with
  | .int k x => match b with
    | .int k' y => intBinA D op k x k' y
    | _ => none
  | .str s => match b with
    | .str u => match op with
      | .eql => some (.bool (bytesB s.data.toList u.data.toList))
      | .neq => some (.bool (not (bytesB s.data.toList u.data.toList)))
      | _ => none
    | _ => none
  | .float k x => match b with
    | .float k' y => match fkEq k k' with
      | true => fltBin op k x y
      | false => none
    | _ => none
  | .ustr .. => none
  | .ostr _ => none
  | .zstr _ => none
  | .cstr .. => none
  | .nan k => match b with
    | .nan k' => match fkEq k k' with
      | true => nanBin op
      | false => none
    | _ => none
  | a => match op with
    | .eql => match eqA P t a b with
      | some r => some (.bool r)
      | none => none
    | .neq => match eqA P t a b with
      | some r => some (.bool (not r))
      | none => none
    | _ => none
theorem eqGuard_ok {op : BinOp} {t : TypeId} {x y : Operand} {a b : AV} {a' b' : Value} (ha : VR μ ρ a a') (hb : VR μ ρ b b') {D : Dec} {v : AV} (h : binA P D op t a b = some v) : (eqGuard op t x y a' b').run P w = .ok () w := by
  have hn : ∀ (hop : op = .eql ∨ op = .neq), ¬ (a = .nili ∧ b = .nili) ∧ ¬ (∃ l, a = .agg l) := fun hop => by
    refine ⟨fun ⟨e1, e2⟩ => ?_, fun ⟨l, e1⟩ => ?_⟩
    · subst e1; subst e2
      rcases hop with rfl | rfl <;> simp [binA, eqA_nili] at h
    · subst e1
      rcases hop with rfl | rfl <;> simp [binA, eqA_agg] at h
  cases op <;> first
    | rfl
    | (have hn := hn (by simp); cases ha <;> cases hb <;> first
        | rfl
        | (exact absurd ⟨rfl, rfl⟩ hn.1)
        | (exact absurd ⟨_, rfl⟩ hn.2))
theorem bin_ok (_hG : GR G μ ρ H w) {D : Dec} (hD : D.OK P ρ) {op : BinOp} {t : TypeId} {a b : AV} {a' b' : Value} (ha : VR μ ρ a a') (hb : VR μ ρ b b') {v : AV} (h : binA P D op t a b = some v) :
    ∃ v', (binOp op t a' b').run P w = .ok v' w ∧ VR μ ρ v v' := by
  unfold binA at h
  split at h
  · split at h
    · cases ha with
      | int e1 => cases hb with
        | int e2 => subst e1; subst e2; exact intBin_ok hD h t
    · cases h
  · split at h
    · cases ha; cases hb
      rename_i s u
      split at h <;> cases h
      · refine ⟨_, ?_, .bool⟩
        simp [binOp, Op.stringOp, ByteArray.toList_eq, bytesB_eq]
      · refine ⟨_, ?_, .bool⟩
        simp [binOp, Op.stringOp, ByteArray.toList_eq, bytesB_eq]
    · cases h
  · split at h
    · split at h
      · rename_i hk
        have hk := fkEq_ok hk
        subst hk
        cases ha; cases hb
        exact fltBin_ok h t
      · cases h
    · cases h
  · cases h
  · cases h
  · cases h
  · cases h
  · split at h
    · split at h
      · rename_i hk
        have hk := fkEq_ok hk
        subst hk
        cases ha with
        | nan h1 =>
        cases hb with
        | nan h2 => exact nanBin_ok h1 h t
      · cases h
    · cases h
  · rename_i n1 n2 n3 n4 n6 n8 n7 n5
    have hne : ∀ {op : BinOp} (f : Bool → Bool) , (op = .eql ∧ f = id) ∨ (op = .neq ∧ f = not) → ∀ r, eqA P t a b = some r → (binOp op t a' b').run P w = .ok (.bool (f r)) w := fun {op} f hop r hr => by
      have he := eq_ok (P := P) (w := w) ha hb hr
      rcases hop with ⟨rfl, rfl⟩ | ⟨rfl, rfl⟩
      · cases ha <;> first
          | (exact absurd rfl (n1 _ _))
          | (exact absurd rfl (n2 _))
          | (exact absurd rfl (n3 _ _))
          | (exact absurd rfl (n4 _))
          | (exact absurd rfl (n6 _))
          | (exact absurd rfl (n8 _))
          | (exact absurd rfl (n7 _ _))
          | (exact absurd rfl (n5 _))
          | (cases hb <;> simp [binOp, he])
      · cases ha <;> first
          | (exact absurd rfl (n1 _ _))
          | (exact absurd rfl (n2 _))
          | (exact absurd rfl (n3 _ _))
          | (exact absurd rfl (n4 _))
          | (exact absurd rfl (n6 _))
          | (exact absurd rfl (n8 _))
          | (exact absurd rfl (n7 _ _))
          | (exact absurd rfl (n5 _))
          | (cases hb <;> simp [binOp, he])
    split at h
    · split at h
      · rename_i r hr
        cases h
        exact ⟨_, hne id (.inl ⟨rfl, rfl⟩) r hr, .bool⟩
      · cases h
    · split at h
      · rename_i r hr
        cases h
        exact ⟨_, hne not (.inr ⟨rfl, rfl⟩) r hr, .bool⟩
      · cases h
    · cases h
end
end Vx

/-! Maps; likeness of structs and pointers; what a builder of strings asks for; functions without a body. -/
namespace Vx
open Go
section
variable {P : Program} {G : Gd} {μ : Mu} {ρ : Env} {H : Heap} {w : World}

/-! ### Maps -/
noncomputable def makeMapM : Mk := (.map [], fun id => .mp id)
theorem makeMap_mk (t : TypeId) : MkOK P μ ρ (Instr.makeMap t none) w makeMapM :=
  ⟨.map #[] 0, 0, .map (some w.heap.size), w, .inl rfl, rfl, ⟨#[], 0, rfl, .nil, .nil⟩, fun _ _ h => .mp h⟩
noncomputable def keyB (d : TypeDesc) (a b : AV) : Option Bool :=
  match d with
  | .string => match strL a with
    | some l => match strL b with
      | some r => bytesE l r
      | none => none
    | none => none
  | .int _ => match a with
    | .int k (.lit x) => match b with
      | .int k' (.lit y) => match kindB k k' with
        | true => some (ibeq x y)
        | false => none
      | _ => none
    | _ => none
  | _ => none
noncomputable def isKeyA (d : TypeDesc) (a : AV) : Bool :=
  match d with
  | .string => match strL a with
    | some _ => true
    | none => false
  | .int kd => match a with
    | .int k _ => kindB k kd
    | _ => false
  | _ => false
theorem isKeyA_ok {d : TypeDesc} {a : AV} {a' : Value} (ha : VR μ ρ a a') (h : isKeyA d a = true) : MapKept.IsKey d a' := by
  unfold isKeyA at h
  split at h
  · split at h
    · rename_i l hl
      obtain ⟨s, rfl, _⟩ := strL_ok ha hl
      trivial
    · cases h
  · split at h
    · cases ha
      exact kindB_eq h
    · cases h
  · cases h
theorem keyB_ok {d : TypeDesc} {a b : AV} {a' b' : Value} (ha : VR μ ρ a a') (hb : VR μ ρ b b') {r : Bool} (h : keyB d a b = some r) : Instr.sameNow d a' b' = some r ∧ (r = true → b' = a') := by
  unfold keyB at h
  split at h
  · split at h
    · rename_i l hl
      split at h
      · rename_i l2 hl2
        obtain ⟨s, rfl, h1⟩ := strL_ok ha hl
        obtain ⟨u, rfl, h2⟩ := strL_ok hb hl2
        have := h1.eq h2 h
        have e : (s == u) = r := by rw [beq_toListBytes, ByteArray.toList_eq, ByteArray.toList_eq]; exact this
        refine ⟨by simp [Instr.sameNow, e], fun hr => ?_⟩
        subst hr
        have h3 := Array.toList_inj.1 (eq_of_beq this)
        have : u = s := by cases s; cases u; simp only at h3; rw [h3]
        rw [this]
      · cases h
    · cases h
  · split at h
    · rename_i k x
      split at h
      · rename_i k' y
        split at h
        · rename_i hk
          have hk := kindB_eq hk
          subst hk
          cases h
          cases ha with
          | int e1 => cases hb with
            | int e2 =>
            simp only [SE.val] at e1 e2
            subst e1; subst e2
            rw [ibeq_eq]
            refine ⟨by simp [Instr.sameNow], fun hr => ?_⟩
            have := eq_of_beq hr
            rw [this]
        · cases h
      · cases h
    · cases h
  · cases h
noncomputable def findA (d : TypeDesc) (k : AV) : List (AV × AV) → Nat → Option (Option (Nat × AV))
  | [], _ => some none
  | (a, v) :: r, i => match keyB d k a with
    | some true => some (some (i, v))
    | some false => findA d k r (Nat.succ i)
    | none => none
theorem findA_ok {d : TypeDesc} {k : AV} {k' : Value} (hk : VR μ ρ k k') : ∀ {es : List (AV × AV)} {l : List MapEntry} {i : Nat}, VRs μ ρ (es.map Prod.fst) (l.map (·.key)) → VRs μ ρ (es.map Prod.snd) (l.map (·.val)) → ∀ {r : Option (Nat × AV)}, findA d k es i = some r →
    (r = none ∧ Instr.findNow d k' l i = some none) ∨ ∃ j v e, r = some (i + j, v) ∧ Instr.findNow d k' l i = some (some (i + j, e.val)) ∧ l[j]? = some e ∧ e.key = k' ∧ VR μ ρ v e.val
  | [], [], i, _, _, r, h => by
    simp only [findA, Option.some.injEq] at h
    subst h; exact .inl ⟨rfl, rfl⟩
  | [], _ :: _, i, h1, _, r, _ => by cases h1
  | (a, v) :: es, [], i, h1, _, r, _ => by cases h1
  | (a, v) :: es, e :: l, i, .cons q1 q2, .cons q3 q4, r, h => by
    simp only [findA] at h
    split at h
    · rename_i hb
      cases h
      obtain ⟨s1, s2⟩ := keyB_ok hk q1 hb
      exact .inr ⟨0, v, e, rfl, by simp [Instr.findNow, s1], rfl, s2 rfl, q3⟩
    · rename_i hb
      obtain ⟨s1, s2⟩ := keyB_ok hk q1 hb
      rcases findA_ok hk q2 q4 h with ⟨rfl, g⟩ | ⟨j, u, e2, rfl, g1, g2, g3, g4⟩
      · exact .inl ⟨rfl, by simp [Instr.findNow, s1, g]⟩
      · have e1 : Nat.succ i + j = i + (j + 1) := by omega
        rw [e1] at g1 ⊢
        exact .inr ⟨j + 1, u, e2, rfl, by simp [Instr.findNow, s1, g1], by simpa using g2, g3, g4⟩
    · cases h
noncomputable def entriesA (H : Heap) (x : AV) : Option (List (AV × AV)) :=
  match x with
  | .nilm => some []
  | .mp k => match H.tr.get k with
    | some (.map es) => some es
    | _ => none
  | _ => none
noncomputable def lookupA (P : Program) (H : Heap) (t : TypeId) (x ix : AV) (ok : Bool) : Option AV :=
  match undT P t with
  | some (.map kt et) => match undT P kt with
    | some d => match isKeyA d ix with
      | true => match entriesA H x with
        | some es => match findA d ix es 0 with
          | some (some (_, v)) => match ok with
            | true => some (.tup [v, .bool true])
            | false => some v
          | some none => match zeroA P et with
            | some z => match ok with
              | true => some (.tup [z, .bool false])
              | false => some z
            | none => none
          | none => none
        | none => none
      | false => none
    | none => none
  | _ => none
theorem lookup_ok (hG : GR G μ ρ H w) {t : TypeId} {x ix : AV} {x' ix' : Value} (hx : VR μ ρ x x') (hix : VR μ ρ ix ix') {ok : Bool} {v : AV} (h : lookupA P H t x ix ok = some v) : ValOK P G μ ρ (Instr.lookup t x' ix' ok) w v H := by
  unfold lookupA at h
  simp only [undT_eq] at h
  split at h
  · rename_i kt et hu
    split at h
    · rename_i d hd
      split at h
      · rename_i hkey
        have hkey := isKeyA_ok hix hkey
        split at h
        · rename_i es hes
          have hent : ∃ l : List MapEntry, VRs μ ρ (es.map Prod.fst) (l.map (·.key)) ∧ VRs μ ρ (es.map Prod.snd) (l.map (·.val)) ∧
              (Instr.lookup t x' ix' ok).run P w = ((do
                Instr.checkKey l.toArray.isEmpty 10000 kt ix'
                let (v, o) ← match ← Instr.findKey kt ix' l with
                  | some (_, v) => pure (v, true)
                  | none => pure (← zeroValue et, false)
                pure (if ok then .tuple #[v, .bool o] else v) : Sem Value)).run P w := by
            unfold entriesA at hes
            split at hes
            · cases hes; cases hx
              exact ⟨[], .nil, .nil, by simp [Instr.lookup, run_underlying hu]; rfl⟩
            · rename_i k
              split at hes
              · rename_i es' hk
                cases hes
                cases hx with
                | @mp _ b n hb =>
                obtain ⟨b1, n1, y, e1, _, e3, l, clock, rfl, r1, r2⟩ := hG.obj k _ hk
                rw [hb] at e1; cases e1
                exact ⟨l.toList, r1, r2, by simp [Instr.lookup, run_underlying hu, MapKept.run_getObj_map e3]; rfl⟩
              · cases hes
            · cases hes
          obtain ⟨l, r1, r2, hrun⟩ := hent
          split at h
          · rename_i j u hf
            rcases findA_ok hix r1 r2 hf with ⟨g, _⟩ | ⟨j', u', e, g0, g1, _, _, g4⟩
            · cases g
            · cases g0
              have hfk := MapKept.run_findKey (w := w) hd g1
              split at h <;> cases h
              · refine ValOK.pure hG (v' := .tuple #[e.val, .bool true]) ?_ (.tup (l' := [e.val, .bool true]) (.cons g4 (.cons .bool .nil)))
                rw [hrun]; simp [MapKept.run_checkKey hd hkey, hfk]
              · refine ValOK.pure hG ?_ g4
                rw [hrun]; simp [MapKept.run_checkKey hd hkey, hfk]
          · rename_i hf
            rcases findA_ok hix r1 r2 hf with ⟨_, g⟩ | ⟨j', u', e, g0, _⟩
            · have hfk := MapKept.run_findKey (w := w) hd g
              split at h
              · rename_i z hz
                obtain ⟨i, z', hi, hz', hv⟩ := zeroA_ok (μ := μ) (ρ := ρ) hz
                split at h <;> cases h
                · refine ValOK.pure hG (v' := .tuple #[z', .bool false]) ?_ (.tup (l' := [z', .bool false]) (.cons hv (.cons .bool .nil)))
                  rw [hrun]; simp [MapKept.run_checkKey hd hkey, hfk, run_zero hi hz']
                · refine ValOK.pure hG ?_ hv
                  rw [hrun]; simp [MapKept.run_checkKey hd hkey, hfk, run_zero hi hz']
              · cases h
            · cases g0
          · cases h
        · cases h
      · cases h
    · cases h
  · cases h
noncomputable def setEnt : List (AV × AV) → Nat → AV × AV → List (AV × AV)
  | [], _, _ => []
  | x :: r, n, y => match n with
    | 0 => y :: r
    | n + 1 => x :: setEnt r n y
noncomputable def mapUpdateA (P : Program) (H : Heap) (t : TypeId) (m k v : AV) : Option Heap :=
  match undT P t with
  | some (.map kt _) => match undT P kt with
    | some d => match isKeyA d k with
      | true => match m with
        | .mp km => match H.tr.get km with
          | some (.map es) => match findA d k es 0 with
            | some none => some (H.set km (.map (es ++ [(k, v)])))
            | some (some (i, _)) => some (H.set km (.map (setEnt es i (k, v))))
            | none => none
          | _ => none
        | _ => none
      | false => none
    | none => none
  | _ => none
theorem setEnt_ok {k v : AV} {k' v' : Value} (hk : VR μ ρ k k') (hv : VR μ ρ v v') : ∀ {es : List (AV × AV)} {l : List MapEntry} {j : Nat} (f : MapEntry → MapEntry), (∀ e, l[j]? = some e → (f e).key = k' ∧ (f e).val = v') → VRs μ ρ (es.map Prod.fst) (l.map (·.key)) → VRs μ ρ (es.map Prod.snd) (l.map (·.val)) →
    VRs μ ρ ((setEnt es j (k, v)).map Prod.fst) ((l.modify j f).map (·.key)) ∧ VRs μ ρ ((setEnt es j (k, v)).map Prod.snd) ((l.modify j f).map (·.val))
  | [], [], j, f, _, _, _ => by simp only [setEnt]; cases j <;> exact ⟨.nil, .nil⟩
  | [], _ :: _, j, f, _, h1, _ => by cases h1
  | (a, x) :: es, [], j, f, _, h1, _ => by cases h1
  | (a, x) :: es, e :: l, 0, f, hf, .cons q1 q2, .cons q3 q4 => by
    obtain ⟨f1, f2⟩ := hf e rfl
    simp only [setEnt, List.modify_zero_cons, List.map_cons]
    rw [f1, f2]
    exact ⟨.cons hk q2, .cons hv q4⟩
  | (a, x) :: es, e :: l, j + 1, f, hf, .cons q1 q2, .cons q3 q4 => by
    obtain ⟨g1, g2⟩ := setEnt_ok hk hv (j := j) f (fun e he => hf e (by simpa using he)) q2 q4
    simp only [setEnt, List.modify_succ_cons, List.map_cons]
    exact ⟨.cons q1 g1, .cons q3 g2⟩
theorem mapUpdate_ok (hG : GR G μ ρ H w) {t : TypeId} {m k v : AV} {m' k' v' : Value} (hm : VR μ ρ m m') (hk : VR μ ρ k k') (hv : VR μ ρ v v') {H' : Heap} (h : mapUpdateA P H t m k v = some H') : ∃ w', (Instr.mapUpdate t m' k' v').run P w = .ok () w' ∧ GR G μ ρ H' w' ∧ Fr G w w' := by
  unfold mapUpdateA at h
  simp only [undT_eq] at h
  split at h
  · rename_i kt et hu
    split at h
    · rename_i d hd
      split at h
      · rename_i hkey0
        have hkey := isKeyA_ok hk hkey0
        split at h
        · rename_i km
          split at h
          · rename_i es hkm
            cases hm with
            | @mp _ b n hb =>
            obtain ⟨b1, n1, y, e1, _, e3, l, clock, rfl, r1, r2⟩ := hG.obj km _ hkm
            rw [hb] at e1; cases e1
            have turn : ∀ (l2 : Array MapEntry) (c2 : Nat) (es2 : List (AV × AV)), VRs μ ρ (es2.map Prod.fst) (l2.toList.map (·.key)) → VRs μ ρ (es2.map Prod.snd) (l2.toList.map (·.val)) →
                GR G μ ρ (H.set km (.map es2)) { w with heap := w.heap.setIfInBounds b (.map l2 c2) } ∧ Fr G w { w with heap := w.heap.setIfInBounds b (.map l2 c2) } := fun l2 c2 es2 q1 q2 =>
              hG.turn hkm hb (fun b' hne => (MapKept.heap_set e3).2 b' hne) (MapKept.heap_set e3).1 (by simp) ⟨l2, c2, rfl, q1, q2⟩ rfl rfl rfl
            split at h
            · rename_i hf
              cases h
              rcases findA_ok hk r1 r2 hf with ⟨_, g⟩ | ⟨j', u', e, g0, _⟩
              · have hfk := MapKept.run_findKey (w := w) hd g
                refine ⟨_, ?_, turn (l.push { key := k', val := v', born := clock }) (clock + 1) _ ?_ ?_⟩
                · simp [Instr.mapUpdate, run_underlying hu, MapKept.run_getObj_map e3, MapKept.run_checkKey hd hkey, hfk, MapKept.run_setObj_map _ e3]
                · simp only [Array.toList_push, List.map_append, List.map_cons, List.map_nil]
                  exact r1.append (.cons hk .nil)
                · simp only [Array.toList_push, List.map_append, List.map_cons, List.map_nil]
                  exact r2.append (.cons hv .nil)
              · cases g0
            · rename_i i u hf
              cases h
              rcases findA_ok hk r1 r2 hf with ⟨g, _⟩ | ⟨j, u', e, g0, g1, g2, g3, _⟩
              · cases g
              · cases g0
                have hfk := MapKept.run_findKey (w := w) hd g1
                have hsame : (Instr.keyThatStays k' k').run P w = .ok k' w := by
                  have : Instr.sameBits 10000 k' k' = true := by
                    cases d <;> cases k' <;> simp_all [MapKept.IsKey, Instr.sameBits, beq_toListBytes]
                  simp [Instr.keyThatStays, this]
                have hg : l[0 + j]? = some e := by rw [Nat.zero_add, ← Array.getElem?_toList]; exact g2
                obtain ⟨q1, q2⟩ := setEnt_ok hk hv (j := 0 + j) (l := l.toList) (fun e : MapEntry => { e with key := k', val := v' }) (fun e _ => ⟨rfl, rfl⟩) r1 r2
                refine ⟨_, ?_, turn (l.modify (0 + j) fun e => { e with key := k', val := v' }) clock _ ?_ ?_⟩
                · simp only [Instr.mapUpdate, Sem.run_bind, run_underlying hu, Result.andThen, MapKept.run_getObj_map e3, MapKept.run_checkKey hd hkey, hfk, hg, Option.map_some, Option.getD_some, g3, hsame, MapKept.run_setObj_map _ e3]
                · rw [Array.toList_modify]; exact q1
                · rw [Array.toList_modify]; exact q2
            · cases h
          · cases h
        · cases h
      · cases h
    · cases h
  · cases h
end
end Vx

/-! Ranges over known strings of plain letters. -/
namespace Vx
open Go
section
variable {P : Program} {G : Gd} {μ : Mu} {ρ : Env} {H : Heap} {w : World}

noncomputable def rangeM (P : Program) (t : TypeId) (x : AV) : Option Mk :=
  match undT P t with
  | some .string => match x with
    | .str s => some (.siter s 0, fun id => .ptr id 0)
    | _ => none
  | _ => none
theorem range_mk {t : TypeId} {x : AV} {x' : Value} (hx : VR μ ρ x x') {m : Mk} (h : rangeM P t x = some m) : MkOK P μ ρ (Instr.range t x') w m := by
  unfold rangeM at h
  simp only [undT_eq] at h
  split at h
  · rename_i hu
    split at h
    · rename_i s
      cases h
      cases hx
      exact ⟨.stringIter s 0, 0, .pointer (some ⟨w.heap.size, 0, none⟩), w, .inl rfl, by simp [Instr.range, run_underlying hu, newObj, Sem.run], rfl, fun _ _ h => .ptr h⟩
    · cases h
  · cases h
noncomputable def nextA (H : Heap) (x : AV) : Option (AV × Heap) :=
  match x with
  | .ptr k o => match Nat.beq o 0 with
    | true => match H.tr.get k with
      | some (.siter s pos) => match nth s.data.toList pos with
        | some b => match Nat.ble b.toNat 127 with
          | true => some (.tup [.bool true, .int .i64 (.lit (Int.ofNat pos)), .int .i32 (.lit (Int.ofNat b.toNat))], H.set k (.siter s (Nat.succ pos)))
          | false => none
        | none => some (.tup [.bool false], H)
      | _ => none
    | false => none
  | _ => none
theorem run_getObj_iter {r : Nat} {s : ByteArray} {p : Nat} (h : w.heap[r]? = some (.stringIter s p)) : (getObj r).run P w = .ok (.stringIter s p) w := by simp [getObj, Sem.run, h]
theorem run_setObj_iter {r : Nat} {s : ByteArray} {p : Nat} (o : Obj) (h : w.heap[r]? = some (.stringIter s p)) : (setObj r o).run P w = .ok () (w.putObj r o) := by simp [setObj, Sem.run, h, World.putObj]
theorem next_ok (hG : GR G μ ρ H w) {x : AV} {x' : Value} (hx : VR μ ρ x x') {ty : TypeId} {v : AV} {H' : Heap} (h : nextA H x = some (v, H')) : ValOK P G μ ρ (Instr.next x' true ty) w v H' := by
  unfold nextA at h
  split at h
  · rename_i k o
    split at h
    · rename_i ho
      have ho := Nat.eq_of_beq_eq_true ho
      subst ho
      split at h
      · rename_i s pos hk
        cases hx with
        | @ptr _ _ b n hb =>
        obtain ⟨b1, n1, y, e1, _, e3, rfl⟩ := hG.obj k _ hk
        rw [hb] at e1; cases e1
        split at h
        · rename_i c hc
          rw [nth_eq] at hc
          split at h
          · rename_i h7
            have h7 := Nat.le_of_ble_eq_true h7
            cases h
            obtain ⟨hi, hget⟩ := List.getElem?_eq_some_iff.1 hc
            have hlt : pos < s.size := by
              have : s.data.toList.length = s.size := rfl
              omega
            have hat : s.get! pos = c := by
              obtain ⟨⟨l⟩⟩ := s
              have hi' : pos < l.length := by simpa using hi
              have e1 : (ByteArray.mk l.toArray).get! pos = l.toArray[pos]! := rfl
              rw [e1, getElem!_pos l.toArray pos (by simpa using hi')]
              simpa using hget
            have hd : Utf8.decode s pos = (c.toNat, 1) := by
              unfold Utf8.decode
              simp only [Nat.add_zero, hat]
              rw [if_pos (by omega)]
            obtain ⟨g1, g2⟩ := hG.turn (w' := w.putObj b (.stringIter s (pos + 1))) hk hb (o := .siter s (pos + 1)) (fun b' hne => World.putObj_heap_other hne) (World.putObj_heap_same (hG.dom _ _ _ hb).2) (by simp) rfl rfl rfl rfl
            refine ⟨.tuple #[.bool true, .int .i64 (pos : Int), .int .i32 (c.toNat : Int)], _, μ, ?_, Mu.le_refl _, .tup (l' := [.bool true, .int .i64 (pos : Int), .int .i32 (c.toNat : Int)]) (.cons .bool (.cons (.int rfl) (.cons (.int rfl) .nil))), g1, g2⟩
            simp [Instr.next, run_getObj_iter e3, hlt, hd, run_setObj_iter _ e3, goInt]
          · cases h
        · rename_i hc
          rw [nth_eq] at hc
          cases h
          have hge : ¬ pos < s.size := by
            have h1 := List.getElem?_eq_none_iff.1 hc
            have : s.data.toList.length = s.size := rfl
            omega
          exact ValOK.pure hG (v' := .tuple #[.bool false]) (by simp [Instr.next, run_getObj_iter e3, hge]) (.tup (l' := [.bool false]) (.cons .bool .nil))
      · cases h
    · cases h
  · cases h
end
end Vx

/-! Strings' lengths, bytes, parts; structs and pointers that are alike; conversions; what a builder of strings asks for; functions without a body. -/
namespace Vx
open Go
section
variable {P : Program} {G : Gd} {μ : Mu} {ρ : Env} {H : Heap} {w : World}

theorem ValOK.turn {s : Sem Value} {u v : AV} (h : ValOK P G μ ρ s w u H) (hv : ∀ μ' v', VR μ' ρ u v' → VR μ' ρ v v') : ValOK P G μ ρ s w v H := by
  obtain ⟨v', w', μ', h1, h2, h3, h4⟩ := h
  exact ⟨v', w', μ', h1, h2, hv _ _ h3, h4⟩
noncomputable def lenX (P : Program) (t : TypeId) (x : AV) : Option AV :=
  match x with
  | .sle _ _ => match undT P t with
    | some (.slice _) => some (.int .i64 (.lit (Int.ofNat 0)))
    | _ => none
  | .ustr l => match undT P t with
    | some .string => some (.int .i64 (.lit (Int.ofNat l.length)))
    | _ => none
  | .zstr n => match undT P t with
    | some .string => some (.int .i64 (.lit (Int.ofNat n)))
    | _ => none
  | .inp e _ => match undT P t with
    | some (.slice _) => some (.int .i64 e)
    | _ => none
  | x => lenA P t x
theorem lenX_ok (hG : GR G μ ρ H w) {ats : Array TypeId} {ty t : TypeId} (ht : ats[0]? = some t) {x : AV} {x' : Value} (hx : VR μ ρ x x') {v : AV} (h : lenX P t x = some v) : ValOK P G μ ρ (Builtin.len_ ats ty #[x']) w v H := by
  unfold lenX at h
  simp only [undT_eq] at h
  split at h
  · split at h
    · rename_i e hu
      cases h; cases hx
      exact ValOK.pure hG (by simp [Builtin.len_, ht, run_underlying hu]; rfl) (.int rfl)
    · cases h
  · split at h
    · rename_i hu
      cases h
      cases hx with
      | @ustr l s hs =>
      have e := SV.len hs
      rw [e]
      exact len_ok hG ht (x := .str s) .str (by simp [lenA, undT_eq, hu])
    · cases h
  · split at h
    · rename_i hu
      cases h
      cases hx with
      | @zstr _ s hs =>
      have e := congrArg List.length hs
      rw [List.length_replicate] at e
      rw [← e, List.length_map]
      exact len_ok hG ht (x := .str s) .str (by simp [lenA, undT_eq, hu])
    · cases h
  · split at h
    · rename_i e hu
      cases h
      cases hx with
      | @inp _ _ n c x h1 h2 h3 =>
      exact ValOK.pure hG (v' := .int .i64 (n : Int)) (by simp [Builtin.len_, ht, run_underlying hu]; rfl) (.int h1)
    · cases h
  · exact len_ok hG ht hx h
noncomputable def indexX (P : Program) (t : TypeId) (x ix : AV) : Option AV :=
  match x with
  | .ustr l => match natOf ix with
    | some i => match undT P t with
      | some .string => match nth l i with
        | some e => some (.int .u8 e)
        | none => none
      | _ => none
    | none => none
  | x => indexA P t x ix
theorem indexX_ok (hG : GR G μ ρ H w) {t : TypeId} {x ix : AV} {x' ix' : Value} (hx : VR μ ρ x x') (hix : VR μ ρ ix ix') {v : AV} (h : indexX P t x ix = some v) : ValOK P G μ ρ (Instr.index t x' ix') w v H := by
  unfold indexX at h
  simp only [undT_eq] at h
  split at h
  · rename_i ls
    split at h
    · rename_i i hi
      split at h
      · rename_i hu
        split at h
        · rename_i e he
          cases h
          cases hx with
          | @ustr l s hs =>
          rw [nth_eq] at he
          have h1 : (ls.map (SE.val ρ))[i]? = some (e.val ρ) := by simp [he]
          rw [hs] at h1
          obtain ⟨b, hb, hbe⟩ : ∃ b, s.data.toList[i]? = some b ∧ (b.toNat : Int) = e.val ρ := by
            rw [List.getElem?_map] at h1
            cases hb : s.data.toList[i]? with
            | none => rw [hb] at h1; cases h1
            | some b => rw [hb] at h1; exact ⟨b, rfl, by simpa using h1⟩
          refine ValOK.turn (index_ok hG (x := .str s) .str hix (v := .int .u8 (.lit (Int.ofNat b.toNat))) ?_) fun μ' v' hv => ?_
          · unfold indexA; simp only [undT_eq, hi, hu, nth_eq, hb]
          · cases hv with
            | int h2 => exact .int (hbe.symm.trans h2)
        · cases h
      · cases h
    · cases h
  · exact index_ok hG hx hix h
noncomputable def sliceX (P : Program) (H : Heap) (t : TypeId) (x : AV) (lo hi : Option AV) : Option AV :=
  match x with
  | .ustr s => match boundA 0 lo with
    | none => none
    | some l => match boundA s.length hi with
      | none => none
      | some h => match Nat.ble l h with
        | false => none
        | true => match Nat.ble h s.length with
          | false => none
          | true => match undT P t with
            | some .string => some (.ustr ((s.drop l).take (Nat.sub h l)))
            | _ => none
  | x => sliceA P H t x lo hi
theorem sliceX_ok (hG : GR G μ ρ H w) {t : TypeId} {x : AV} {x' : Value} (hx : VR μ ρ x x') {lo hi : Option AV} {lo' hi' : Option Value} (hlo : ORel μ ρ lo lo') (hhi : ORel μ ρ hi hi') {v : AV} (hv : sliceX P H t x lo hi = some v) :
    ValOK P G μ ρ (Instr.sliceAt t x' lo' hi' none) w v H := by
  unfold sliceX at hv
  simp only [undT_eq] at hv
  split at hv
  · split at hv
    · cases hv
    · rename_i l hl
      split at hv
      · cases hv
      · rename_i h hh
        split at hv
        · cases hv
        · rename_i b1
          split at hv
          · cases hv
          · rename_i b2
            split at hv
            · rename_i hu
              cases hv
              cases hx with
              | @ustr l0 s hs =>
              have e := SV.len hs
              rw [e] at hh b2
              refine ValOK.turn (slice_ok hG (x := .str s) .str hlo hhi (v := .str (s.extract l h)) ?_) fun μ' v' hv => ?_
              · unfold sliceA; simp only [undT_eq, hl, hh, b1, b2, hu]
              · cases hv
                exact .ustr (SV.extract hs l h)
            · cases hv
  · exact slice_ok hG hx hlo hhi hv

/-- x[0:0:0]. -/
noncomputable def isZ0 (x : Option AV) : Bool :=
  match x with
  | some y => match natOf y with
    | some n => Nat.beq n 0
    | none => false
  | none => false
noncomputable def sliceN (P : Program) (t : TypeId) (x : AV) (lo hi mx : Option AV) : Option AV :=
  match isZ0 lo with
  | false => none
  | true => match isZ0 hi with
    | false => none
    | true => match isZ0 mx with
      | false => none
      | true => match undT P t with
        | some (.slice e) => match infoT P e with
          | some _ => match x with
            | .nils => some .nils
            | .sl k o _ _ _ => some (.sle k o)
            | .sle k o => some (.sle k o)
            | _ => none
          | none => none
        | _ => none
theorem isZ0_ok {x : Option AV} {x' : Option Value} (hx : ORel μ ρ x x') (h : isZ0 x = true) : ∃ k, x' = some (.int k 0) := by
  unfold isZ0 at h
  split at h
  · split at h
    · rename_i n hn
      have h := Nat.eq_of_beq_eq_true h
      subst h
      cases hx with
      | some hv =>
      obtain ⟨k, rfl⟩ := natOf_ok hv hn
      exact ⟨k, rfl⟩
    · cases h
  · cases h
theorem sliceN_ok (hG : GR G μ ρ H w) {t : TypeId} {x : AV} {x' : Value} (hx : VR μ ρ x x') {lo hi mx : Option AV} {lo' hi' mx' : Option Value} (hlo : ORel μ ρ lo lo') (hhi : ORel μ ρ hi hi') (hmx : ORel μ ρ mx mx') {v : AV} (hv : sliceN P t x lo hi mx = some v) :
    ValOK P G μ ρ (Instr.sliceAt t x' lo' hi' mx') w v H := by
  unfold sliceN at hv
  simp only [infoT_eq, undT_eq] at hv
  split at hv
  · cases hv
  · rename_i h1
    split at hv
    · cases hv
    · rename_i h2
      split at hv
      · cases hv
      · rename_i h3
        obtain ⟨k1, rfl⟩ := isZ0_ok hlo h1
        obtain ⟨k2, rfl⟩ := isZ0_ok hhi h2
        obtain ⟨k3, rfl⟩ := isZ0_ok hmx h3
        split at hv
        · rename_i e hu
          split at hv
          · rename_i ie hie
            have key : ∀ (a : Option Addr) (n c : Nat), (Instr.sliceAt t (.slice a n c) (some (.int k1 0)) (some (.int k2 0)) (some (.int k3 0))).run P w = .ok (.slice a 0 0) w := fun a n c => by
              simp [Instr.sliceAt, Instr.slice, run_underlying hu, Instr.sliceBounds, Instr.sliceBound, asIntOf, Go.sizeOf, typeInfo, hie]
            split at hv
            · cases hv; cases hx
              exact ValOK.pure hG (key _ _ _) .nils
            · cases hv
              cases hx with
              | sl hb _ _ _ => exact ValOK.pure hG (key _ _ _) (.sle hb)
            · cases hv
              cases hx with
              | sle hb => exact ValOK.pure hG (key _ _ _) (.sle hb)
            · cases hv
          · cases hv
        · cases hv

/-! ### Likeness -/
noncomputable def eqV (P : Program) (D : Dec) (t : TypeId) (a b : AV) : Option Bool :=
  match a with
  | .int k x => match b with
    | .int k' y => match undT P t with
      | some (.int _) => match kindB k k' with
        | true => cmpA D .eql x y
        | false => none
      | _ => none
    | _ => none
  | a => eqA P t a b
/-- Two whole numbers of one kind. -/
noncomputable def intPair (P : Program) (t : TypeId) (a b : AV) : Bool :=
  match a with
  | .int k _ => match b with
    | .int k' _ => match undT P t with
      | some (.int _) => kindB k k'
      | _ => false
    | _ => false
  | _ => false
theorem litI_ok {e : SE} {n : Int} (h : litI e = some n) : e.val ρ = n := by
  unfold litI at h
  split at h
  · cases h; rfl
  · cases h
theorem eqV_ok {D : Dec} (hD : D.OK P ρ) (d : Nat) {t : TypeId} {a b : AV} {a' b' : Value} (ha : VR μ ρ a a') (hb : VR μ ρ b b') {r : Bool} (h : eqV P D t a b = some r) : (Op.equalIn (d + 1) t a' b').run P w = .ok r w := by
  unfold eqV at h
  simp only [undT_eq] at h
  split at h
  · split at h
    · split at h
      · rename_i hu
        split at h
        · rename_i hk
          have hk := kindB_eq hk
          subst hk
          cases ha with
          | int e1 => cases hb with
            | int e2 =>
            subst e1; subst e2
            rw [run_equalIn_int w d t _ _ _ _ hu]
            have hc := cmp_ok (P := P) (w := w) hD h
            have hc : (Result.ok (Value.bool (_ == _)) w : Result Value) = .ok (.bool r) w := hc
            injection hc with h1 h2
            injection h1 with h1
            rw [h1]
        · cases h
      · cases h
    · cases h
  · exact eqIn_ok d ha hb h
theorem intPair_ok (d : Nat) {t : TypeId} {a b : AV} {a' b' : Value} (ha : VR μ ρ a a') (hb : VR μ ρ b b') (h : intPair P t a b = true) : ∃ r, (Op.equalIn (d + 1) t a' b').run P w = .ok r w := by
  unfold intPair at h
  simp only [undT_eq] at h
  split at h
  · split at h
    · split at h
      · rename_i hu
        have hk := kindB_eq h
        subst hk
        cases ha; cases hb
        exact ⟨_, run_equalIn_int w d t _ _ _ _ hu⟩
      · cases h
    · cases h
  · cases h
theorem part_run {t : TypeId} {cs : List AV} {cs' : Array Value} (hc : VRs μ ρ cs cs'.toList) {off : Nat} {v : AV} (h : partA P t cs off = some v) : ∃ v', (part t cs' off).run P w = .ok v' w ∧ VR μ ρ v v' := by
  unfold partA at h
  simp only [infoT_eq, undT_eq] at h
  split at h
  · rename_i d hu
    split at h
    · rename_i ha
      split at h
      · rename_i i hi
        cases h
        refine ⟨.agg (cs'.extract off (off + i.size)), ?_, ?_⟩
        · simp only [part, Sem.run_bind, run_isAgg hu, ha, Result.andThen_ok, if_true, run_size hi, Sem.run_pure]
        · have := VR.agg ((hc.drop off).take i.size)
          have e : ((cs'.toList.drop off).take i.size).toArray = cs'.extract off (off + i.size) := by
            apply Array.toList_inj.1
            simp [Array.toList_extract]
          rw [e] at this
          exact this
      · cases h
    · rename_i ha
      rw [nth_eq] at h
      obtain ⟨v', h1, h2⟩ := hc.get h
      have h1' : cs'[off]? = some v' := by simpa using h1
      refine ⟨v', ?_, h2⟩
      simp only [part, Sem.run_bind, run_isAgg hu, ha, Result.andThen_ok, Bool.false_eq_true, if_false, h1', Sem.run_pure]
  · cases h
noncomputable def eqFieldsA (P : Program) (D : Dec) (l r : List AV) : List Field → Option Bool
  | [] => some true
  | f :: fs => match f.name == "_" with
    | true => eqFieldsA P D l r fs
    | false => match partA P f.type l f.offset with
      | some a => match partA P f.type r f.offset with
        | some b => match eqV P D f.type a b with
          | some true => eqFieldsA P D l r fs
          | some false => some false
          | none => match intPair P f.type a b with
            | true => match eqFieldsA P D l r fs with
              | some false => some false
              | _ => none
            | false => none
        | none => none
      | none => none
theorem eqFieldsA_ok {D : Dec} (hD : D.OK P ρ) (d : Nat) {l r : List AV} {l' r' : Array Value} (hl : VRs μ ρ l l'.toList) (hr : VRs μ ρ r r'.toList) : ∀ {fs : List Field} {b : Bool}, eqFieldsA P D l r fs = some b → (Op.eqFields (d + 1) l' r' fs).run P w = .ok b w
  | [], b, h => by
    simp only [eqFieldsA, Option.some.injEq] at h
    subst h; rfl
  | f :: fs, b, h => by
    simp only [eqFieldsA] at h
    split at h
    · rename_i hn
      have hn : f.name = "_" := by simpa using hn
      simp only [Op.eqFields]
      rw [if_neg (by simp [hn])]
      exact eqFieldsA_ok hD d hl hr h
    · rename_i hn
      have hn : ¬ f.name = "_" := by simpa using hn
      split at h
      · rename_i a ha
        split at h
        · rename_i c hc
          obtain ⟨a', ra, va⟩ := part_run (P := P) (w := w) hl ha
          obtain ⟨c', rc, vc⟩ := part_run (P := P) (w := w) hr hc
          simp only [Op.eqFields]
          rw [if_pos hn]
          split at h
          · rename_i he
            have := eqV_ok (P := P) (w := w) hD d va vc he
            simp [ra, rc, this, eqFieldsA_ok hD d hl hr h]
          · rename_i he
            cases h
            have := eqV_ok (P := P) (w := w) hD d va vc he
            simp [ra, rc, this]
          · split at h
            · rename_i hip
              split at h
              · rename_i hf
                cases h
                obtain ⟨q, hq⟩ := intPair_ok (P := P) (w := w) d va vc hip
                have hrest := eqFieldsA_ok hD d hl hr hf
                cases q <;> simp [ra, rc, hq, hrest]
              · cases h
            · cases h
        · cases h
      · cases h
noncomputable def eqSt (P : Program) (D : Dec) (t : TypeId) (l r : List AV) : Option Bool :=
  match undT P t with
  | some (.struct _) => match P.stoodInHeld t with
    | false => match P.eqGuardType P.depth t with
      | false => eqFieldsA P D l r (P.fieldsOf t).toList
      | true => none
    | true => none
  | _ => none
theorem fieldsOf_eq {t : TypeId} {fs : Array Field} (h : P.underlying t = some (.struct fs)) : P.fieldsOf t = fs := by
  simp [Program.fieldsOf, h]
noncomputable def eqPt (P : Program) (t : TypeId) (k o k' o' : Nat) : Option Bool :=
  match undT P t with
  | some (.pointer e) => match infoT P e with
    | some i => match Nat.beq i.size 0 with
      | false => match Nat.beq k k' with
        | true => some (Nat.beq o o')
        | false => none
      | true => none
    | none => none
  | _ => none
noncomputable def boolOp (op : BinOp) (r : Option Bool) : Option AV :=
  match op with
  | .eql => match r with
    | some b => some (.bool b)
    | none => none
  | .neq => match r with
    | some b => some (.bool (not b))
    | none => none
  | _ => none
noncomputable def binY (P : Program) (D : Dec) (op : BinOp) (t : TypeId) (a b : AV) : Option AV :=
  match strL a with
  | some l => match strL b with
    | some r => strBin op l r
    | none => none
  | none => match a with
    | .agg l => match b with
      | .agg r => boolOp op (eqSt P D t l r)
      | _ => none
    | .ptr k o => match b with
      | .ptr k' o' => boolOp op (eqPt P t k o k' o')
      | b => binA P D op t (.ptr k o) b
    | a => binA P D op t a b
theorem binY_ok (hG : GR G μ ρ H w) {D : Dec} (hD : D.OK P ρ) {op : BinOp} {t : TypeId} {x y : Operand} {a b : AV} {a' b' : Value} (ha : VR μ ρ a a') (hb : VR μ ρ b b') {v : AV} (h : binY P D op t a b = some v) :
    ∃ v', (eqGuard op t x y a' b').run P w = .ok () w ∧ (binOp op t a' b').run P w = .ok v' w ∧ VR μ ρ v v' := by
  unfold binY at h
  split at h
  · rename_i l hl
    split at h
    · rename_i r hr
      obtain ⟨s, rfl, h1⟩ := strL_ok ha hl
      obtain ⟨u, rfl, h2⟩ := strL_ok hb hr
      obtain ⟨v', h3, h4⟩ := strBin_ok (P := P) (w := w) (μ := μ) h1 h2 h
      refine ⟨v', ?_, ?_, h4⟩
      · cases op <;> rfl
      · have : binOp op t (.string s) (.string u) = Op.stringOp op s u := by
          unfold strBin at h
          cases op <;> first | rfl | (cases h)
        rw [this]; exact h3
    · cases h
  · split at h
    · rename_i l hn
      split at h
      · rename_i r
        cases ha with
        | @agg _ l' hl =>
        cases hb with
        | @agg _ r' hr =>
        unfold boolOp at h
        have key : ∀ b, eqSt P D t l r = some b → P.eqGuardType P.depth t = false ∧ (Op.equalIn 10000 t (.agg l'.toArray) (.agg r'.toArray)).run P w = .ok b w := fun b hb => by
          unfold eqSt at hb
          simp only [undT_eq] at hb
          split at hb
          · rename_i fs hu
            split at hb
            · rename_i hp
              split at hb
              · rename_i hg
                refine ⟨hg, ?_⟩
                rw [run_equalIn_struct w 9999 t _ _ (by rw [fieldsOf_eq hu]; exact hu) hp]
                exact eqFieldsA_ok hD 9998 (by simpa using hl) (by simpa using hr) hb
              · cases hb
            · cases hb
          · cases hb
        split at h
        · split at h
          · rename_i b hb
            cases h
            obtain ⟨k1, k2⟩ := key b hb
            refine ⟨.bool b, run_eqGuard_agg w _ t x y _ _ k1, ?_, .bool⟩
            rw [run_eql_struct, k2]; rfl
          · cases h
        · split at h
          · rename_i b hb
            cases h
            obtain ⟨k1, k2⟩ := key b hb
            refine ⟨.bool (!b), run_eqGuard_agg w _ t x y _ _ k1, ?_, .bool⟩
            rw [run_neq_struct, k2]; rfl
          · cases h
        · cases h
      · cases h
    · rename_i k o hn
      split at h
      · rename_i k' o'
        cases ha with
        | @ptr _ _ bk nk hk =>
        cases hb with
        | @ptr _ _ bk' nk' hk' =>
        have key : ∀ b, eqPt P t k o k' o' = some b → (Op.equal t (.pointer (some ⟨bk, o, none⟩)) (.pointer (some ⟨bk', o', none⟩))).run P w = .ok b w := fun b hb => by
          unfold eqPt at hb
          simp only [infoT_eq, undT_eq] at hb
          split at hb
          · rename_i e hu
            split at hb
            · rename_i i hi
              split at hb
              · rename_i hz
                split at hb
                · rename_i hkk
                  have hkk := Nat.eq_of_beq_eq_true hkk
                  subst hkk
                  rw [hk] at hk'; cases hk'
                  cases hb
                  have hz' : ¬ i.size = 0 := fun e => by rw [e] at hz; cases hz
                  have : ∀ d, (Op.equalIn (d + 1) t (.pointer (some ⟨bk, o, none⟩)) (.pointer (some ⟨bk, o', none⟩))).run P w = .ok (Nat.beq o o') w := fun d => by
                    simp [Op.equalIn, run_underlying hu, Go.sizeOf, typeInfo, hi, hz', sameAddr]
                    cases hb : Nat.beq o o' with
                    | true => have := Nat.eq_of_beq_eq_true hb; subst this; simp
                    | false =>
                      have : ¬ o = o' := fun e => by subst e; simp at hb
                      simp
                  exact this 9999
                · cases hb
              · cases hb
            · cases hb
          · cases hb
        unfold boolOp at h
        split at h
        · split at h
          · rename_i b hb
            cases h
            exact ⟨.bool b, rfl, by simp [binOp, key b hb], .bool⟩
          · cases h
        · split at h
          · rename_i b hb
            cases h
            exact ⟨.bool (!b), rfl, by simp [binOp, key b hb], .bool⟩
          · cases h
        · cases h
      · obtain ⟨v', h1, h2⟩ := bin_ok (P := P) hG hD ha hb h
        exact ⟨v', eqGuard_ok ha hb h, h1, h2⟩
    · obtain ⟨v', h1, h2⟩ := bin_ok (P := P) hG hD ha hb h
      exact ⟨v', eqGuard_ok ha hb h, h1, h2⟩
/-- A chosen string, where the choice is known. -/
noncomputable def rsv (D : Dec) (a : AV) : AV :=
  match a with
  | .cstr e l => match D.red e with
    | .lit (.ofNat n) => match nth l n with
      | some s => .str s
      | none => .cstr e l
    | _ => .cstr e l
  | a => a
theorem rsv_ok {D : Dec} (hD : D.OK P ρ) {a : AV} {a' : Value} (h : VR μ ρ a a') : VR μ ρ (rsv D a) a' := by
  unfold rsv
  split
  · rename_i e l
    split
    · rename_i n hn
      split
      · rename_i s hs
        cases h with
        | @cstr _ _ i s' he hl =>
        have := hD.red e
        rw [hn, he] at this
        have : n = i := Int.ofNat.inj this
        subst this
        rw [nth_eq] at hs
        rw [hs] at hl
        cases hl
        exact .str
      · exact h
    · exact h
  · exact h
noncomputable def strSame (op : BinOp) : Option AV :=
  match op with
  | .eql => some (.bool true)
  | .neq => some (.bool false)
  | _ => none
noncomputable def binX (P : Program) (D : Dec) (op : BinOp) (t : TypeId) (a b : AV) : Option AV :=
  match a with
  | .ostr i => match b with
    | .ostr j => match Nat.beq i j with
      | true => strSame op
      | false => none
    | _ => none
  | .zstr n => match b with
    | .zstr m => boolOp op (some (Nat.beq n m))
    | b => binY P D op t (.zstr n) (rsv D b)
  | a => binY P D op t (rsv D a) (rsv D b)
theorem binX_ok (hG : GR G μ ρ H w) {D : Dec} (hD : D.OK P ρ) {op : BinOp} {t : TypeId} {x y : Operand} {a b : AV} {a' b' : Value} (ha : VR μ ρ a a') (hb : VR μ ρ b b') {v : AV} (h : binX P D op t a b = some v) :
    ∃ v', (eqGuard op t x y a' b').run P w = .ok () w ∧ (binOp op t a' b').run P w = .ok v' w ∧ VR μ ρ v v' := by
  unfold binX at h
  split at h
  · split at h
    · split at h
      · rename_i hij
        have hij := Nat.eq_of_beq_eq_true hij
        subst hij
        cases ha with
        | ostr h1 =>
        cases hb with
        | ostr h2 =>
        rw [h1] at h2
        subst h2
        unfold strSame at h
        split at h
        · cases h
          exact ⟨.bool true, rfl, by simp [binOp, Op.stringOp], .bool⟩
        · cases h
          exact ⟨.bool false, rfl, by simp [binOp, Op.stringOp], .bool⟩
        · cases h
      · cases h
    · cases h
  · rename_i n
    split at h
    · rename_i m
      cases ha with
      | @zstr _ s h1 =>
      cases hb with
      | @zstr _ u h2 =>
      have key : (s.data.toList == u.data.toList) = Nat.beq n m := by
        cases e : Nat.beq n m with
        | true =>
          have e := Nat.eq_of_beq_eq_true e
          subst e
          have : s = u := by
            have h3 := h1.trans h2.symm
            have h4 : s.data.toList = u.data.toList := by
              have inj : Function.Injective (fun b : UInt8 => (b.toNat : Int)) := fun a b hab => UInt8.toNat_inj.1 (Int.ofNat.inj hab)
              exact (List.map_inj_right (fun a b hab => inj hab)).1 h3
            cases s; cases u
            congr 1
            exact Array.toList_inj.1 h4
          subst this
          simp
        | false =>
          have hne : s ≠ u := fun e' => by
            subst e'
            have := congrArg List.length (h1.symm.trans h2)
            simp at this
            subst this
            simp at e
          refine beq_eq_false_iff_ne.2 fun h4 => hne ?_
          cases s; cases u
          congr 1
          exact Array.toList_inj.1 h4
      unfold boolOp at h
      split at h
      · cases h
        exact ⟨.bool (s.data.toList == u.data.toList), rfl, by simp [binOp, Op.stringOp, ByteArray.toList_eq], by rw [key]; exact .bool⟩
      · cases h
        exact ⟨.bool (!(s.data.toList == u.data.toList)), rfl, by simp [binOp, Op.stringOp, ByteArray.toList_eq], by rw [key]; exact .bool⟩
      · cases h
    · exact binY_ok hG hD ha (rsv_ok hD hb) h
  · exact binY_ok hG hD (rsv_ok hD ha) (rsv_ok hD hb) h
end
end Vx

/-! Conversions; what a builder of strings asks for; functions without a body. -/
namespace Vx
open Go
section
variable {P : Program} {G : Gd} {μ : Mu} {ρ : Env} {H : Heap} {w : World}

/-! ### Places in memory -/
theorem rowAt_mono {fits : TypeId → Bool} {e : TypeId} {c c' off n : Nat} (hc : c ≤ c') : ∀ d, rowAt P fits d e c off n = true → rowAt P fits d e c' off n = true
  | 0, h => by simp [rowAt] at h
  | d + 1, h => by
    by_cases hs : P.cellsOf e = 0
    · simp [rowAt, hs] at h
    · simp only [rowAt, if_neg hs, Bool.or_eq_true, Bool.and_eq_true, decide_eq_true_eq] at h ⊢
      rcases h with ⟨⟨h1, h2⟩, h3⟩ | ⟨h1, h2⟩
      · exact .inl ⟨⟨h1, by omega⟩, h3⟩
      · exact .inr ⟨by omega, h2⟩
theorem liesAt_mono {e : TypeId} {c c' off : Nat} (hc : c ≤ c') : ∀ d u n, liesAt P d e c off u n = true → liesAt P d e c' off u n = true
  | 0, u, n, h => by simp [liesAt] at h
  | d + 1, u, n, h => by
    simp only [liesAt, Bool.or_eq_true] at h ⊢
    rcases h with h | h
    · exact .inl (rowAt_mono hc _ h)
    · refine .inr ?_
      cases hu : P.underlying u with
      | none => rw [hu] at h; cases h
      | some t =>
        rw [hu] at h
        cases t <;> first
          | (exact liesAt_mono hc d _ _ h)
          | (cases h)
theorem GR.shape (hG : GR G μ ρ H w) {k : Nat} {c : Tr AV} {d : AV} {m : Nat} {e : TypeId} (hk : H.tr.get k = some (.cells c d m e)) {b n : Nat} (hb : μ k = some (b, n)) : w.shape? b = some (e, n) ∧ m ≤ n := by
  obtain ⟨b1, n1, e1, h2, _, _, a, h3, h4⟩ := hG.cell hk
  rw [hb] at e1; cases e1
  exact ⟨by simp [World.shape?, h3, h4], h2⟩
/-- A block is given up, and turns. -/
theorem GR.dead (h : GR G μ ρ H w) {w' : World} {k b n : Nat} {o0 : AObj} (hk : H.tr.get k = some o0) (hb : μ k = some (b, n)) (hother : ∀ b', b' ≠ b → w'.heap[b']? = w.heap[b']?)
    (hsz : w'.heap.size = w.heap.size) (hos : w'.os = w.os) (ht : w'.tape = w.tape) (hout : w'.output = w.output) : GR G μ ρ (H.kill k) w' ∧ Fr G w w' := by
  obtain ⟨b1, n1, x1, e1, hg, _, _⟩ := h.obj k o0 hk
  rw [hb] at e1; cases e1
  have g : ∀ j oj, (H.kill k).tr.get j = some oj → j ≠ k ∧ H.tr.get j = some oj := fun j oj hj => by
    simp only [Heap.kill, Tr.get_put] at hj
    by_cases e : j = k
    · rw [if_pos e] at hj; cases hj
    · rw [if_neg e] at hj; exact ⟨e, hj⟩
  refine ⟨⟨fun k' o' hk' => ?_, fun k1 k2 o1 o2 b' m1 m2 h1 h2 => h.inj _ _ _ _ _ _ _ (g _ _ h1).2 (g _ _ h2).2, fun k' b' n' hk' => by rw [hsz]; exact h.dom _ _ _ hk', fun b' hb' => by rw [hsz]; exact h.glt b' hb', h.rid, h.inp.fr h.glt fun b' hb' _ => hother b' (fun e => hg (e ▸ hb'))⟩,
    ⟨hos, ht, hout, by omega, fun b' hb' _ => hother b' (fun e => hg (e ▸ hb'))⟩⟩
  obtain ⟨hne, hj⟩ := g _ _ hk'
  obtain ⟨b2, n2, x2, h1, h2, h3, h4⟩ := h.obj k' o' hj
  refine ⟨b2, n2, x2, h1, h2, (hother b2 ?_).trans h3, h4⟩
  intro e2; subst e2
  exact hne (h.inj k' k _ _ _ _ _ hj hk h1 hb)

/-! ### Conversions -/
noncomputable def fltConv (s : FloatKind) (b : Nat) (k : FloatKind) : Option AV :=
  match fkEq s k with
  | true => some (.float k b)
  | false => match s.decode b with
    | .nan _ _ => match fkEq k .f64 with
      | true => some (.nan .f64)
      | false => none
    | .infinity g => some (.float k (k.encode (.infinity g)))
    | .number g m e => match (k.decode (k.encode (.number g m e))).isInfinity with
      | true => none
      | false => some (.float k (k.encode (.number g m e)))
theorem nan_cut (t : Nat) (b : Nat) : ∃ s r, FloatKind.f64.format.read ((Question.nanConv .f64 b).cut t) = .nan s r := by
  have e : (Question.nanConv .f64 b).cut t = (t % 2) * 9223372036854775808 + 9218868437227405312 + 1 + (t / 2) % 4503599627370495 := rfl
  rw [e]
  have h1 : FloatKind.f64.format.signWeight = 9223372036854775808 := by decide
  have h2 : FloatKind.f64.format.infRung = 9218868437227405312 := by decide
  have h3 : FloatKind.f64.format.binade = 4503599627370496 := by decide
  unfold Ieee.Format.read
  simp only [h1, h2, h3]
  have hr : ((t % 2) * 9223372036854775808 + 9218868437227405312 + 1 + (t / 2) % 4503599627370495) % 9223372036854775808 = 9218868437227405312 + 1 + (t / 2) % 4503599627370495 := by omega
  rw [hr, if_neg (by omega), if_neg (by omega), if_neg (by omega)]
  exact ⟨_, _, rfl⟩
theorem fltConv_ok {s k : FloatKind} {b : Nat} {v : AV} (h : fltConv s b k = some v) : ∃ v' w', (Conv.floatToFloat s b k).run P w = .ok v' w' ∧ (w' = w ∨ w' = w.drew) ∧ VR μ ρ v v' := by
  unfold fltConv at h
  split at h
  · rename_i hk
    have hk := fkEq_ok hk
    subst hk
    cases h
    exact ⟨_, w, by simp [Conv.floatToFloat], .inl rfl, .float⟩
  · rename_i hk
    have hne : s ≠ k := fun e => by subst e; cases s <;> cases hk
    split at h
    · rename_i s1 t1 hd
      split at h
      · rename_i hk
        have hk := fkEq_ok hk
        subst hk
        cases h
        exact ⟨_, w.drew, by simp [Conv.floatToFloat, hne, hd, Question.forced], .inr rfl, .nan (nan_cut (w.tape w.drawn (.nanConv .f64 b)) b)⟩
      · cases h
    · rename_i g hd
      cases h
      exact ⟨_, w, by simp [Conv.floatToFloat, hne, hd], .inl rfl, .float⟩
    · rename_i g m e hd
      split at h
      · cases h
      · rename_i hi
        cases h
        exact ⟨_, w, by simp [Conv.floatToFloat, hne, hd, hi], .inl rfl, .float⟩
noncomputable def convA (P : Program) (src dst : TypeId) (x : AV) : Option AV :=
  match x with
  | .float s b => match undT P src with
    | some _ => match undT P dst with
      | some (.float k) => fltConv s b k
      | _ => none
    | none => none
  | .int _ e => match undT P src with
    | some (.int _) => match undT P dst with
      | some (.int k) => match e with
        | .lit n => some (.int k (.lit (wrapF k n)))
        | e => some (.int k (.conv k e))
      | _ => none
    | _ => none
  | _ => none
theorem conv_ok (hG : GR G μ ρ H w) {src dst : TypeId} {x v : AV} {x' : Value} (hx : VR μ ρ x x') (h : convA P src dst x = some v) : ValOK P G μ ρ (convert src dst x') w v H := by
  unfold convA at h
  simp only [undT_eq] at h
  split at h
  · split at h
    · rename_i u hu
      split at h
      · rename_i k hd
        cases hx
        obtain ⟨v', w', r1, r0, r2⟩ := fltConv_ok (P := P) (w := w) (μ := μ) (ρ := ρ) h
        refine ⟨v', w', μ, ?_, Mu.le_refl _, r2, ?_, ?_⟩
        · simp [convert, run_underlying hu, run_underlying hd, r1]
        · rcases r0 with rfl | rfl
          · exact hG
          · exact hG.drew
        · rcases r0 with rfl | rfl
          · exact Fr.refl _ _
          · exact Fr.drew G w
      · cases h
    · cases h
  · split at h
    · rename_i k1 hs
      split at h
      · rename_i k hd
        cases hx with
        | int he =>
        split at h
        · cases h
          refine ValOK.pure hG (v' := .int k (k.wrap _)) ?_ (.int (wrapF_eq _ _))
          simp only [SE.val] at he; subst he
          simp [convert, run_underlying hs, run_underlying hd, Conv.intToInt]
        · cases h
          subst he
          refine ValOK.pure hG (v' := .int k (k.wrap _)) ?_ (.int rfl)
          simp [convert, run_underlying hs, run_underlying hd, Conv.intToInt]
      · cases h
    · cases h
  · cases h
noncomputable def toUnsafe (P : Program) (H : Heap) (t : TypeId) (k o : Nat) : Option AV :=
  match infoT P t with
  | some j => match Nat.beq j.size 0 with
    | false => match H.tr.get k with
      | some (.cells _ _ m _) => match Nat.ble (Nat.succ o) m with
        | true => some (.ptr k o)
        | false => none
      | _ => none
    | true => none
  | none => none
noncomputable def fromUnsafe (P : Program) (H : Heap) (u : TypeId) (k o : Nat) : Option AV :=
  match infoT P u with
  | some _ => match H.tr.get k with
    | some (.cells _ _ m e) => match liesAt P P.depth e (Nat.div m (P.cellsOf e)) o u 1 with
      | true => some (.ptr k o)
      | false => none
    | _ => none
  | none => none
noncomputable def convX (P : Program) (H : Heap) (src dst : TypeId) (x : AV) : Option AV :=
  match x with
  | .ptr k o => match undT P src with
    | some (.pointer t) => match undT P dst with
      | some .unsafePointer => toUnsafe P H t k o
      | _ => none
    | some .unsafePointer => match undT P dst with
      | some (.pointer u) => fromUnsafe P H u k o
      | _ => none
    | _ => none
  | .int k e => convA P src dst (.int k e)
  | .float k b => convA P src dst (.float k b)
  | x => match undT P src with
    | some (.slice e) => match undT P dst with
      | some .string => match undT P e with
        | some (.int .u8) => bytesStrA H x
        | _ => none
      | _ => none
    | _ => none
theorem convX_ok (hG : GR G μ ρ H w) {src dst : TypeId} {x v : AV} {x' : Value} (hx : VR μ ρ x x') (h : convX P H src dst x = some v) : ValOK P G μ ρ (convert src dst x') w v H := by
  unfold convX at h
  simp only [undT_eq] at h
  split at h
  · rename_i k o
    cases hx with
    | @ptr _ _ b n hb =>
    split at h
    · rename_i t hs
      split at h
      · rename_i hd
        unfold toUnsafe at h
        simp only [infoT_eq] at h
        split at h
        · rename_i j hj
          split at h
          · rename_i hz
            have hz' : j.size ≠ 0 := fun e => by rw [e] at hz; cases hz
            split at h
            · rename_i c d m e hk
              split at h
              · rename_i hlt
                have hlt := Nat.le_of_ble_eq_true hlt
                cases h
                obtain ⟨h1, h2⟩ := hG.shape hk hb
                exact ValOK.pure hG (Lib.run_to_unsafe w ⟨b, o, none⟩ hs hd hj hz' h1 (by show o < n; omega)) (.ptr hb)
              · cases h
            · cases h
          · cases h
        · cases h
      · cases h
    · rename_i hs
      split at h
      · rename_i u hd
        unfold fromUnsafe at h
        simp only [infoT_eq] at h
        split at h
        · rename_i j hj
          split at h
          · rename_i c d m e hk
            split at h
            · rename_i hl
              cases h
              obtain ⟨h1, h2⟩ := hG.shape hk hb
              exact ValOK.pure hG (Lib.run_from_unsafe w ⟨b, o, none⟩ hs hd hj h1 (liesAt_mono (Nat.div_le_div_right h2) _ _ _ hl)) (.ptr hb)
            · cases h
          · cases h
        · cases h
      · cases h
    · cases h
  · exact conv_ok hG hx h
  · exact conv_ok hG hx h
  · split at h
    · rename_i e hs
      split at h
      · rename_i hd
        split at h
        · rename_i he
          have hx2 : ∃ a n c, x' = .slice a n c := by
            unfold bytesStrA at h
            split at h
            · cases hx; exact ⟨_, _, _, rfl⟩
            · split at h
              · rename_i hq
                unfold zsl at hq
                split at hq
                · cases hx; exact ⟨_, _, _, rfl⟩
                · cases hq
              · unfold srcA at h
                split at h
                · rename_i hq
                  split at hq
                  · cases hx; exact ⟨_, _, _, rfl⟩
                  · cases hq
                · cases h
          obtain ⟨a, n, c, rfl⟩ := hx2
          have := bytesStr_ok (P := P) hG hx h
          obtain ⟨v', w', μ', h1, h2⟩ := this
          refine ⟨v', w', μ', ?_, h2⟩
          have : (convert src dst (.slice a n c)).run P w = (Conv.bytesToString (.slice a n c)).run P w := by
            cases a <;> simp [convert, run_underlying hs, run_underlying hd, run_underlying he]
          rw [this]; exact h1
        · cases h
      · cases h
    · cases h

/-! ### unsafe.SliceData, unsafe.String -/
noncomputable def sliceDataA (x : AV) : Option AV :=
  match x with
  | .nils => some .nilp
  | .sl k o _ cap _ => match Nat.beq cap 0 with
    | false => some (.ptr k o)
    | true => none
  | _ => none
theorem sliceData_ok (hG : GR G μ ρ H w) {ats : Array TypeId} {ty : TypeId} {x v : AV} {x' : Value} (hx : VR μ ρ x x') (h : sliceDataA x = some v) : ValOK P G μ ρ (Builtin.unsafeSliceData_ ats ty #[x']) w v H := by
  unfold sliceDataA at h
  split at h
  · cases h; cases hx
    exact ValOK.pure hG (Lib.run_unsafeSliceData_nil w ats ty 0 0) .nilp
  · split at h
    · rename_i hc
      cases h
      cases hx with
      | @sl _ _ _ _ _ b n cap' hb c1 c2 c3 =>
      refine ValOK.pure hG (Lib.run_unsafeSliceData_row w ats ty _ _ cap' ?_) (.ptr hb)
      intro e
      rename_i cap _ _
      have : cap = 0 := by omega
      subst this; cases hc
    · cases h
  · cases h
noncomputable def unsafeStrA (P : Program) (H : Heap) (ats : List TypeId) (x y : AV) : Option (AV × Heap) :=
  match ats with
  | [pt, _] => match y with
    | .int .i64 (.lit (.ofNat n)) => match Nat.beq n 0 with
      | true => match x with
        | .nilp => some (.ustr [], H)
        | .ptr .. => some (.ustr [], H)
        | _ => none
      | false => match x with
        | .ptr k o => match Nat.beq o 0 with
          | true => match H.tr.get k with
            | some (.cells c d m e) => match undT P pt with
              | some (.pointer e') => match Nat.beq e e' with
                | true => match Nat.beq (P.cellsOf e) 1 with
                  | true => match Nat.ble n m with
                    | true => match Nat.ble n 1099511627776 with
                      | true => match bytesOf (cellsFrom c d 0 n) with
                        | some es => some (.ustr es, H.kill k)
                        | none => none
                      | false => none
                    | false => none
                  | false => none
                | false => none
              | _ => none
            | _ => none
          | false => none
        | _ => none
    | _ => none
  | _ => none
theorem unsafeStr_ok (hG : GR G μ ρ H w) {ats : Array TypeId} {ty : TypeId} {x y v : AV} {x' y' : Value} (hx : VR μ ρ x x') (hy : VR μ ρ y y') {H' : Heap} (h : unsafeStrA P H ats.toList x y = some (v, H')) : ValOK P G μ ρ (Builtin.unsafeString_ ats ty #[x', y']) w v H' := by
  unfold unsafeStrA at h
  simp only [undT_eq] at h
  split at h
  · rename_i pt it hats
    have hats' : ats = #[pt, it] := Array.toList_inj.1 hats
    subst hats'
    split at h
    · rename_i n
      cases hy with
      | int hn =>
      have hn : ((n : Nat) : Int) = _ := hn
      subst hn
      split at h
      · rename_i h0
        have h0 := Nat.eq_of_beq_eq_true h0
        subst h0
        split at h
        · cases h; cases hx
          exact ValOK.pure hG (Lib.run_unsafeString_none w pt it ty none) (.ustr rfl)
        · cases h; cases hx
          exact ValOK.pure hG (Lib.run_unsafeString_none w pt it ty _) (.ustr rfl)
        · cases h
      · rename_i h0
        have h0 : n ≠ 0 := fun e => by subst e; cases h0
        split at h
        · rename_i k o
          cases hx with
          | @ptr _ _ b nb hb =>
          split at h
          · rename_i ho
            have ho := Nat.eq_of_beq_eq_true ho
            subst ho
            split at h
            · rename_i c d m e hk
              split at h
              · rename_i e' hp
                split at h
                · rename_i hee
                  have hee := Nat.eq_of_beq_eq_true hee
                  subst hee
                  split at h
                  · rename_i hc1
                    have hc1 := Nat.eq_of_beq_eq_true hc1
                    split at h
                    · rename_i hnm
                      have hnm := Nat.le_of_ble_eq_true hnm
                      split at h
                      · rename_i hbig
                        have hbig := Nat.le_of_ble_eq_true hbig
                        split at h
                        · rename_i es hes
                          cases h
                          obtain ⟨hsh, hle⟩ := hG.shape hk hb
                          obtain ⟨cs, q1, q2, q3⟩ := cells_at hG hk hb 0 n (by omega)
                          obtain ⟨q4, q5⟩ := bytesOf_ok q3 hes
                          obtain ⟨L, hL⟩ : ∃ L : List UInt8, L = (es.map (SE.val ρ)).map fun i : Int => UInt8.ofNat i.toNat := ⟨_, rfl⟩
                          have hLn : L.length = n := by
                            have : cs.length = es.length := by rw [q4]; simp
                            rw [hL]; simp; omega
                          have hval : ∀ (j : Nat) (x : UInt8), L[j]? = some x → cs[j]? = some (Value.int .u8 (x.toNat : Int)) := fun j x hj => by
                            rw [hL, List.getElem?_map] at hj
                            rw [q4, List.getElem?_map]
                            cases hi : (es.map (SE.val ρ))[j]? with
                            | none => rw [hi] at hj; cases hj
                            | some i =>
                              rw [hi] at hj
                              simp only [Option.map_some, Option.some.injEq] at hj
                              have hb2 := q5 i (List.mem_of_getElem? hi)
                              have h2 : i.toNat < UInt8.size := by show i.toNat < 256; omega
                              simp only [Option.map_some]
                              rw [← hj, UInt8.toNat_ofNat_of_lt' h2]
                              congr 2
                              omega
                          have hrun := Lib.run_unsafeString_row (P := P) w pt it ty e hp hc1 b nb hsh L (fun e0 => by rw [e0] at hLn; exact h0 hLn.symm) (by omega) (by omega) fun j x hj => by
                            have := q2 j _ (hval j x hj)
                            rw [addr_add]; exact this
                          rw [hLn] at hrun
                          have hfz : (w.freeze ⟨b, 0, none⟩ n).heap = w.heap.modify b fun
                              | .cells c elem (lo, hi) => .cells c elem (if lo == hi then (0, 0 + n) else (min lo 0, max hi (0 + n)))
                              | o => o := by
                            simp only [World.freeze]; rw [if_neg h0]; rfl
                          obtain ⟨g1, g2⟩ := hG.dead (w' := w.freeze ⟨b, 0, none⟩ n) hk hb (fun b' hne => by rw [hfz, Array.getElem?_modify]; simp [Ne.symm hne]) (by rw [hfz]; simp) (by simp only [World.freeze]; split <;> rfl) (by simp only [World.freeze]; split <;> rfl) (by simp only [World.freeze]; split <;> rfl)
                          refine ⟨_, _, μ, hrun, Mu.le_refl _, .ustr ?_, g1, g2⟩
                          show es.map (SE.val ρ) = L.map fun b => (b.toNat : Int)
                          rw [hL, List.map_map]
                          generalize es.map (SE.val ρ) = ns at q5
                          clear hval hrun hLn hL q4 hes
                          induction ns with
                          | nil => rfl
                          | cons i r ih =>
                            rw [List.map_cons, ← ih fun m hm => q5 m (List.mem_cons_of_mem _ hm)]
                            congr 1
                            have hb2 := q5 i List.mem_cons_self
                            have h2 : i.toNat < UInt8.size := by show i.toNat < 256; omega
                            simp only [Function.comp]
                            rw [UInt8.toNat_ofNat_of_lt' h2]
                            omega
                        · cases h
                      · cases h
                    · cases h
                  · cases h
                · cases h
              · cases h
            · cases h
          · cases h
        · cases h
    · cases h
  · cases h

/-! ### Functions without a body -/
noncomputable def extA (_P : Program) (D : Dec) (H : Heap) (f : FuncId) (l : List AV) : Option (AV × Heap) :=
  match D.ext f with
  | some x => match x with
    | .same => match l with
      | [v] => some (v, H)
      | _ => none
    | .noZero _ e => match l with
      | [v] => match v with
        | .int .i64 (.lit (.ofNat n)) => match Nat.ble n 1099511627776 with
          | true => some (.sl H.next 0 n n 1, H.add (.cells .e .nilp 0 e))
          | false => none
        | _ => none
      | _ => none
    | .fn F => match F l with
      | some v => some (v, H)
      | none => none
  | none => none
theorem ext_ok (hG : GR G μ ρ H w) {D : Dec} (hD : D.OK P ρ) {f : FuncId} {l : List AV} {l' : List Value} (hl : VRs μ ρ l l') {v : AV} {H' : Heap} (h : extA P D H f l = some (v, H')) :
    ∃ v' w' μ', (callFunc f l'.toArray).run P w = .ok (.value v') w' ∧ Mu.le μ μ' ∧ VR μ' ρ v v' ∧ GR G μ' ρ H' w' ∧ Fr G w w' := by
  unfold extA at h
  split at h
  · rename_i x hx
    have hok := hD.ext f x hx
    split at h
    · split at h
      · cases h
        cases hl with
        | cons h1 h2 =>
        cases h2
        exact ⟨_, w, μ, hok _ _, Mu.le_refl _, h1, hG, Fr.refl _ _⟩
      · cases h
    · rename_i t e
      split at h
      · split at h
        · rename_i n
          split at h
          · rename_i hbig
            have hbig := Nat.le_of_ble_eq_true hbig
            cases h
            cases hl with
            | cons h1 h2 =>
            cases h2
            cases h1 with
            | int hn =>
            have hn : ((n : Nat) : Int) = _ := hn
            subst hn
            obtain ⟨hu, ps, hrun⟩ := hok
            obtain ⟨cs, r1, r2, _⟩ := Lib.run_makeNoZero (P := P) w ps t e hu n (by omega)
            have ho : OR μ ρ cs.size (.cells cs e (0, 0)) (.cells .e .nilp 0 e) := ⟨cs, rfl, rfl, Nat.zero_le _, fun i hi => by omega⟩
            obtain ⟨g1, g2, g3⟩ := hG.drew.drew.alloc ho
            refine ⟨.slice (some ⟨w.heap.size, 0, none⟩) n cs.size, _, _, ?_, g2, .sl (Mu.upd_self _ _ _) r2 (by simp) (Nat.le_refl _), g1, ((Fr.drew G w).trans (Fr.drew G _)).trans g3⟩
            rw [hrun, r1]; rfl
          · cases h
        · cases h
      · cases h
    · split at h
      · rename_i v0 hv0
        cases h
        obtain ⟨v', q1, q2⟩ := hok l v hv0 μ ρ l' hl w
        exact ⟨v', w, μ, q1, Mu.le_refl _, q2, hG, Fr.refl _ _⟩
      · cases h
  · cases h
end
end Vx
