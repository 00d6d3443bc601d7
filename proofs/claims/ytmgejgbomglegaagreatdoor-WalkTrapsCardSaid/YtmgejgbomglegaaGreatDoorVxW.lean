/-
  Conversions; what a builder of strings asks for; functions without a body.
-/
import Derived.Test.YtmgejgbomglegaaGreatDoorVxV
namespace Vx
open Go
section
variable {P : Program} {G : Gd} {μ : Mu} {ρ : Nat → Int} {H : Heap} {w : World}

/-! ### Places in memory -/
theorem rowAt_mono {fits : TypeId → Bool} {e : TypeId} {c c' off n : Nat} (hc : c ≤ c') : ∀ d, rowAt P fits d e c off n = true → rowAt P fits d e c' off n = true
  | 0, h => by simp [rowAt] at h
  | d + 1, h => by
    by_cases hs : P.cellsOf e = 0
    · simp [rowAt, hs] at h
    · simp only [rowAt, if_neg hs, Bool.or_eq_true, Bool.and_eq_true, decide_eq_true_eq] at h ⊢
      rcases h with ⟨⟨h1, h2⟩, h3⟩ | ⟨h1, h2⟩
      · exact .inl ⟨⟨h1, by omega⟩, h3⟩
      · exact .inr ⟨by omega, h2⟩
theorem liesAt_mono {e : TypeId} {c c' off : Nat} (hc : c ≤ c') : ∀ d u n, liesAt P d e c off u n = true → liesAt P d e c' off u n = true
  | 0, u, n, h => by simp [liesAt] at h
  | d + 1, u, n, h => by
    simp only [liesAt, Bool.or_eq_true] at h ⊢
    rcases h with h | h
    · exact .inl (rowAt_mono hc _ h)
    · refine .inr ?_
      cases hu : P.underlying u with
      | none => rw [hu] at h; cases h
      | some t =>
        rw [hu] at h
        cases t <;> first
          | (exact liesAt_mono hc d _ _ h)
          | (cases h)
theorem GR.shape (hG : GR G μ ρ H w) {k : Nat} {c : Tr AV} {d : AV} {m : Nat} {e : TypeId} (hk : H.tr.get k = some (.cells c d m e)) {b n : Nat} (hb : μ k = some (b, n)) : w.shape? b = some (e, n) ∧ m ≤ n := by
  obtain ⟨b1, n1, e1, h2, _, _, a, h3, h4⟩ := hG.cell hk
  rw [hb] at e1; cases e1
  exact ⟨by simp [World.shape?, h3, h4], h2⟩
/-- A block is given up, and turns. -/
theorem GR.dead (h : GR G μ ρ H w) {w' : World} {k b n : Nat} {o0 : AObj} (hk : H.tr.get k = some o0) (hb : μ k = some (b, n)) (hother : ∀ b', b' ≠ b → w'.heap[b']? = w.heap[b']?)
    (hsz : w'.heap.size = w.heap.size) (hos : w'.os = w.os) (ht : w'.tape = w.tape) (hout : w'.output = w.output) : GR G μ ρ (H.kill k) w' ∧ Fr G w w' := by
  obtain ⟨b1, n1, x1, e1, hg, _, _⟩ := h.obj k o0 hk
  rw [hb] at e1; cases e1
  have g : ∀ j oj, (H.kill k).tr.get j = some oj → j ≠ k ∧ H.tr.get j = some oj := fun j oj hj => by
    simp only [Heap.kill, Tr.get_put] at hj
    by_cases e : j = k
    · rw [if_pos e] at hj; cases hj
    · rw [if_neg e] at hj; exact ⟨e, hj⟩
  refine ⟨⟨fun k' o' hk' => ?_, fun k1 k2 o1 o2 b' m1 m2 h1 h2 => h.inj _ _ _ _ _ _ _ (g _ _ h1).2 (g _ _ h2).2, fun k' b' n' hk' => by rw [hsz]; exact h.dom _ _ _ hk', fun b' hb' => by rw [hsz]; exact h.glt b' hb', h.rid⟩,
    ⟨hos, ht, hout, by omega, fun b' hb' _ => hother b' (fun e => hg (e ▸ hb'))⟩⟩
  obtain ⟨hne, hj⟩ := g _ _ hk'
  obtain ⟨b2, n2, x2, h1, h2, h3, h4⟩ := h.obj k' o' hj
  refine ⟨b2, n2, x2, h1, h2, (hother b2 ?_).trans h3, h4⟩
  intro e2; subst e2
  exact hne (h.inj k' k _ _ _ _ _ hj hk h1 hb)

/-! ### Conversions -/
noncomputable def fltConv (s : FloatKind) (b : Nat) (k : FloatKind) : Option AV :=
  match fkEq s k with
  | true => some (.float k b)
  | false => match s.decode b with
    | .nan _ _ => match fkEq k .f64 with
      | true => some (.nan .f64)
      | false => none
    | .infinity g => some (.float k (k.encode (.infinity g)))
    | .number g m e => match (k.decode (k.encode (.number g m e))).isInfinity with
      | true => none
      | false => some (.float k (k.encode (.number g m e)))
theorem nan_cut (t : Nat) (b : Nat) : ∃ s r, FloatKind.f64.format.read ((Question.nanConv .f64 b).cut t) = .nan s r := by
  have e : (Question.nanConv .f64 b).cut t = (t % 2) * 9223372036854775808 + 9218868437227405312 + 1 + (t / 2) % 4503599627370495 := rfl
  rw [e]
  have h1 : FloatKind.f64.format.signWeight = 9223372036854775808 := by decide
  have h2 : FloatKind.f64.format.infRung = 9218868437227405312 := by decide
  have h3 : FloatKind.f64.format.binade = 4503599627370496 := by decide
  unfold Ieee.Format.read
  simp only [h1, h2, h3]
  have hr : ((t % 2) * 9223372036854775808 + 9218868437227405312 + 1 + (t / 2) % 4503599627370495) % 9223372036854775808 = 9218868437227405312 + 1 + (t / 2) % 4503599627370495 := by omega
  rw [hr, if_neg (by omega), if_neg (by omega), if_neg (by omega)]
  exact ⟨_, _, rfl⟩
theorem fltConv_ok {s k : FloatKind} {b : Nat} {v : AV} (h : fltConv s b k = some v) : ∃ v' w', (Conv.floatToFloat s b k).run P w = .ok v' w' ∧ (w' = w ∨ w' = w.drew) ∧ VR μ ρ v v' := by
  unfold fltConv at h
  split at h
  · rename_i hk
    have hk := fkEq_ok hk
    subst hk
    cases h
    exact ⟨_, w, by simp [Conv.floatToFloat], .inl rfl, .float⟩
  · rename_i hk
    have hne : s ≠ k := fun e => by subst e; cases s <;> cases hk
    split at h
    · rename_i s1 t1 hd
      split at h
      · rename_i hk
        have hk := fkEq_ok hk
        subst hk
        cases h
        exact ⟨_, w.drew, by simp [Conv.floatToFloat, hne, hd, Question.forced], .inr rfl, .nan (nan_cut (w.tape w.drawn (.nanConv .f64 b)) b)⟩
      · cases h
    · rename_i g hd
      cases h
      exact ⟨_, w, by simp [Conv.floatToFloat, hne, hd], .inl rfl, .float⟩
    · rename_i g m e hd
      split at h
      · cases h
      · rename_i hi
        cases h
        exact ⟨_, w, by simp [Conv.floatToFloat, hne, hd, hi], .inl rfl, .float⟩
noncomputable def convA (P : Program) (src dst : TypeId) (x : AV) : Option AV :=
  match x with
  | .float s b => match P.underlying src with
    | some _ => match P.underlying dst with
      | some (.float k) => fltConv s b k
      | _ => none
    | none => none
  | .int _ e => match P.underlying src with
    | some (.int _) => match P.underlying dst with
      | some (.int k) => match e with
        | .lit n => some (.int k (.lit (wrapF k n)))
        | e => some (.int k (.conv k e))
      | _ => none
    | _ => none
  | _ => none
theorem conv_ok (hG : GR G μ ρ H w) {src dst : TypeId} {x v : AV} {x' : Value} (hx : VR μ ρ x x') (h : convA P src dst x = some v) : ValOK P G μ ρ (convert src dst x') w v H := by
  unfold convA at h
  split at h
  · split at h
    · rename_i u hu
      split at h
      · rename_i k hd
        cases hx
        obtain ⟨v', w', r1, r0, r2⟩ := fltConv_ok (P := P) (w := w) (μ := μ) (ρ := ρ) h
        refine ⟨v', w', μ, ?_, Mu.le_refl _, r2, ?_, ?_⟩
        · simp [convert, run_underlying hu, run_underlying hd, r1]
        · rcases r0 with rfl | rfl
          · exact hG
          · exact hG.drew
        · rcases r0 with rfl | rfl
          · exact Fr.refl _ _
          · exact Fr.drew G w
      · cases h
    · cases h
  · split at h
    · rename_i k1 hs
      split at h
      · rename_i k hd
        cases hx with
        | int he =>
        split at h
        · cases h
          refine ValOK.pure hG (v' := .int k (k.wrap _)) ?_ (.int (wrapF_eq _ _))
          simp only [SE.val] at he; subst he
          simp [convert, run_underlying hs, run_underlying hd, Conv.intToInt]
        · cases h
          subst he
          refine ValOK.pure hG (v' := .int k (k.wrap _)) ?_ (.int rfl)
          simp [convert, run_underlying hs, run_underlying hd, Conv.intToInt]
      · cases h
    · cases h
  · cases h
noncomputable def toUnsafe (P : Program) (H : Heap) (t : TypeId) (k o : Nat) : Option AV :=
  match P.info? t with
  | some j => match Nat.beq j.size 0 with
    | false => match H.tr.get k with
      | some (.cells _ _ m _) => match Nat.ble (Nat.succ o) m with
        | true => some (.ptr k o)
        | false => none
      | _ => none
    | true => none
  | none => none
noncomputable def fromUnsafe (P : Program) (H : Heap) (u : TypeId) (k o : Nat) : Option AV :=
  match P.info? u with
  | some _ => match H.tr.get k with
    | some (.cells _ _ m e) => match liesAt P P.depth e (Nat.div m (P.cellsOf e)) o u 1 with
      | true => some (.ptr k o)
      | false => none
    | _ => none
  | none => none
noncomputable def convX (P : Program) (H : Heap) (src dst : TypeId) (x : AV) : Option AV :=
  match x with
  | .ptr k o => match P.underlying src with
    | some (.pointer t) => match P.underlying dst with
      | some .unsafePointer => toUnsafe P H t k o
      | _ => none
    | some .unsafePointer => match P.underlying dst with
      | some (.pointer u) => fromUnsafe P H u k o
      | _ => none
    | _ => none
  | .int k e => convA P src dst (.int k e)
  | .float k b => convA P src dst (.float k b)
  | x => match P.underlying src with
    | some (.slice e) => match P.underlying dst with
      | some .string => match P.underlying e with
        | some (.int .u8) => bytesStrA H x
        | _ => none
      | _ => none
    | _ => none
theorem convX_ok (hG : GR G μ ρ H w) {src dst : TypeId} {x v : AV} {x' : Value} (hx : VR μ ρ x x') (h : convX P H src dst x = some v) : ValOK P G μ ρ (convert src dst x') w v H := by
  unfold convX at h
  split at h
  · rename_i k o
    cases hx with
    | @ptr _ _ b n hb =>
    split at h
    · rename_i t hs
      split at h
      · rename_i hd
        unfold toUnsafe at h
        split at h
        · rename_i j hj
          split at h
          · rename_i hz
            have hz' : j.size ≠ 0 := fun e => by rw [e] at hz; cases hz
            split at h
            · rename_i c d m e hk
              split at h
              · rename_i hlt
                have hlt := Nat.le_of_ble_eq_true hlt
                cases h
                obtain ⟨h1, h2⟩ := hG.shape hk hb
                exact ValOK.pure hG (Lib.run_to_unsafe w ⟨b, o, none⟩ hs hd hj hz' h1 (by show o < n; omega)) (.ptr hb)
              · cases h
            · cases h
          · cases h
        · cases h
      · cases h
    · rename_i hs
      split at h
      · rename_i u hd
        unfold fromUnsafe at h
        split at h
        · rename_i j hj
          split at h
          · rename_i c d m e hk
            split at h
            · rename_i hl
              cases h
              obtain ⟨h1, h2⟩ := hG.shape hk hb
              exact ValOK.pure hG (Lib.run_from_unsafe w ⟨b, o, none⟩ hs hd hj h1 (liesAt_mono (Nat.div_le_div_right h2) _ _ _ hl)) (.ptr hb)
            · cases h
          · cases h
        · cases h
      · cases h
    · cases h
  · exact conv_ok hG hx h
  · exact conv_ok hG hx h
  · split at h
    · rename_i e hs
      split at h
      · rename_i hd
        split at h
        · rename_i he
          have hx2 : ∃ a n c, x' = .slice a n c := by
            unfold bytesStrA at h
            split at h
            · cases hx; exact ⟨_, _, _, rfl⟩
            · unfold srcA at h
              split at h
              · rename_i hq
                split at hq
                · cases hx; exact ⟨_, _, _, rfl⟩
                · cases hq
              · cases h
          obtain ⟨a, n, c, rfl⟩ := hx2
          have := bytesStr_ok (P := P) hG hx h
          obtain ⟨v', w', μ', h1, h2⟩ := this
          refine ⟨v', w', μ', ?_, h2⟩
          have : (convert src dst (.slice a n c)).run P w = (Conv.bytesToString (.slice a n c)).run P w := by
            cases a <;> simp [convert, run_underlying hs, run_underlying hd, run_underlying he]
          rw [this]; exact h1
        · cases h
      · cases h
    · cases h

/-! ### unsafe.SliceData, unsafe.String -/
noncomputable def sliceDataA (x : AV) : Option AV :=
  match x with
  | .nils => some .nilp
  | .sl k o _ cap _ => match Nat.beq cap 0 with
    | false => some (.ptr k o)
    | true => none
  | _ => none
theorem sliceData_ok (hG : GR G μ ρ H w) {ats : Array TypeId} {ty : TypeId} {x v : AV} {x' : Value} (hx : VR μ ρ x x') (h : sliceDataA x = some v) : ValOK P G μ ρ (Builtin.unsafeSliceData_ ats ty #[x']) w v H := by
  unfold sliceDataA at h
  split at h
  · cases h; cases hx
    exact ValOK.pure hG (Lib.run_unsafeSliceData_nil w ats ty 0 0) .nilp
  · split at h
    · rename_i hc
      cases h
      cases hx with
      | @sl _ _ _ _ _ b n cap' hb c1 c2 c3 =>
      refine ValOK.pure hG (Lib.run_unsafeSliceData_row w ats ty _ _ cap' ?_) (.ptr hb)
      intro e
      rename_i cap _ _
      have : cap = 0 := by omega
      subst this; cases hc
    · cases h
  · cases h
noncomputable def unsafeStrA (P : Program) (H : Heap) (ats : List TypeId) (x y : AV) : Option (AV × Heap) :=
  match ats with
  | [pt, _] => match y with
    | .int .i64 (.lit (.ofNat n)) => match Nat.beq n 0 with
      | true => match x with
        | .nilp => some (.ustr [], H)
        | .ptr .. => some (.ustr [], H)
        | _ => none
      | false => match x with
        | .ptr k o => match Nat.beq o 0 with
          | true => match H.tr.get k with
            | some (.cells c d m e) => match P.underlying pt with
              | some (.pointer e') => match Nat.beq e e' with
                | true => match Nat.beq (P.cellsOf e) 1 with
                  | true => match Nat.ble n m with
                    | true => match Nat.ble n 1099511627776 with
                      | true => match bytesOf (cellsFrom c d 0 n) with
                        | some es => some (.ustr es, H.kill k)
                        | none => none
                      | false => none
                    | false => none
                  | false => none
                | false => none
              | _ => none
            | _ => none
          | false => none
        | _ => none
    | _ => none
  | _ => none
theorem unsafeStr_ok (hG : GR G μ ρ H w) {ats : Array TypeId} {ty : TypeId} {x y v : AV} {x' y' : Value} (hx : VR μ ρ x x') (hy : VR μ ρ y y') {H' : Heap} (h : unsafeStrA P H ats.toList x y = some (v, H')) : ValOK P G μ ρ (Builtin.unsafeString_ ats ty #[x', y']) w v H' := by
  unfold unsafeStrA at h
  split at h
  · rename_i pt it hats
    have hats' : ats = #[pt, it] := Array.toList_inj.1 hats
    subst hats'
    split at h
    · rename_i n
      cases hy with
      | int hn =>
      have hn : ((n : Nat) : Int) = _ := hn
      subst hn
      split at h
      · rename_i h0
        have h0 := Nat.eq_of_beq_eq_true h0
        subst h0
        split at h
        · cases h; cases hx
          exact ValOK.pure hG (Lib.run_unsafeString_none w pt it ty none) (.ustr rfl)
        · cases h; cases hx
          exact ValOK.pure hG (Lib.run_unsafeString_none w pt it ty _) (.ustr rfl)
        · cases h
      · rename_i h0
        have h0 : n ≠ 0 := fun e => by subst e; cases h0
        split at h
        · rename_i k o
          cases hx with
          | @ptr _ _ b nb hb =>
          split at h
          · rename_i ho
            have ho := Nat.eq_of_beq_eq_true ho
            subst ho
            split at h
            · rename_i c d m e hk
              split at h
              · rename_i e' hp
                split at h
                · rename_i hee
                  have hee := Nat.eq_of_beq_eq_true hee
                  subst hee
                  split at h
                  · rename_i hc1
                    have hc1 := Nat.eq_of_beq_eq_true hc1
                    split at h
                    · rename_i hnm
                      have hnm := Nat.le_of_ble_eq_true hnm
                      split at h
                      · rename_i hbig
                        have hbig := Nat.le_of_ble_eq_true hbig
                        split at h
                        · rename_i es hes
                          cases h
                          obtain ⟨hsh, hle⟩ := hG.shape hk hb
                          obtain ⟨cs, q1, q2, q3⟩ := cells_at hG hk hb 0 n (by omega)
                          obtain ⟨q4, q5⟩ := bytesOf_ok q3 hes
                          obtain ⟨L, hL⟩ : ∃ L : List UInt8, L = (es.map (SE.val ρ)).map fun i : Int => UInt8.ofNat i.toNat := ⟨_, rfl⟩
                          have hLn : L.length = n := by
                            have : cs.length = es.length := by rw [q4]; simp
                            rw [hL]; simp; omega
                          have hval : ∀ (j : Nat) (x : UInt8), L[j]? = some x → cs[j]? = some (Value.int .u8 (x.toNat : Int)) := fun j x hj => by
                            rw [hL, List.getElem?_map] at hj
                            rw [q4, List.getElem?_map]
                            cases hi : (es.map (SE.val ρ))[j]? with
                            | none => rw [hi] at hj; cases hj
                            | some i =>
                              rw [hi] at hj
                              simp only [Option.map_some, Option.some.injEq] at hj
                              have hb2 := q5 i (List.mem_of_getElem? hi)
                              have h2 : i.toNat < UInt8.size := by show i.toNat < 256; omega
                              simp only [Option.map_some]
                              rw [← hj, UInt8.toNat_ofNat_of_lt' h2]
                              congr 2
                              omega
                          have hrun := Lib.run_unsafeString_row (P := P) w pt it ty e hp hc1 b nb hsh L (fun e0 => by rw [e0] at hLn; exact h0 hLn.symm) (by omega) (by omega) fun j x hj => by
                            have := q2 j _ (hval j x hj)
                            rw [addr_add]; exact this
                          rw [hLn] at hrun
                          have hfz : (w.freeze ⟨b, 0, none⟩ n).heap = w.heap.modify b fun
                              | .cells c elem (lo, hi) => .cells c elem (if lo == hi then (0, 0 + n) else (min lo 0, max hi (0 + n)))
                              | o => o := by
                            simp only [World.freeze]; rw [if_neg h0]; rfl
                          obtain ⟨g1, g2⟩ := hG.dead (w' := w.freeze ⟨b, 0, none⟩ n) hk hb (fun b' hne => by rw [hfz, Array.getElem?_modify]; simp [Ne.symm hne]) (by rw [hfz]; simp) (by simp only [World.freeze]; split <;> rfl) (by simp only [World.freeze]; split <;> rfl) (by simp only [World.freeze]; split <;> rfl)
                          refine ⟨_, _, μ, hrun, Mu.le_refl _, .ustr ?_, g1, g2⟩
                          show es.map (SE.val ρ) = L.map fun b => (b.toNat : Int)
                          rw [hL, List.map_map]
                          generalize es.map (SE.val ρ) = ns at q5
                          clear hval hrun hLn hL q4 hes
                          induction ns with
                          | nil => rfl
                          | cons i r ih =>
                            rw [List.map_cons, ← ih fun m hm => q5 m (List.mem_cons_of_mem _ hm)]
                            congr 1
                            have hb2 := q5 i List.mem_cons_self
                            have h2 : i.toNat < UInt8.size := by show i.toNat < 256; omega
                            simp only [Function.comp]
                            rw [UInt8.toNat_ofNat_of_lt' h2]
                            omega
                        · cases h
                      · cases h
                    · cases h
                  · cases h
                · cases h
              · cases h
            · cases h
          · cases h
        · cases h
    · cases h
  · cases h

/-! ### Functions without a body -/
noncomputable def extA (_P : Program) (D : Dec) (H : Heap) (f : FuncId) (l : List AV) : Option (AV × Heap) :=
  match D.ext f with
  | some x => match x with
    | .same => match l with
      | [v] => some (v, H)
      | _ => none
    | .noZero _ e => match l with
      | [v] => match v with
        | .int .i64 (.lit (.ofNat n)) => match Nat.ble n 1099511627776 with
          | true => some (.sl H.next 0 n n 1, H.add (.cells .e .nilp 0 e))
          | false => none
        | _ => none
      | _ => none
    | .fn F => match F l with
      | some v => some (v, H)
      | none => none
  | none => none
theorem ext_ok (hG : GR G μ ρ H w) {D : Dec} (hD : D.OK P ρ) {f : FuncId} {l : List AV} {l' : List Value} (hl : VRs μ ρ l l') {v : AV} {H' : Heap} (h : extA P D H f l = some (v, H')) :
    ∃ v' w' μ', (callFunc f l'.toArray).run P w = .ok (.value v') w' ∧ Mu.le μ μ' ∧ VR μ' ρ v v' ∧ GR G μ' ρ H' w' ∧ Fr G w w' := by
  unfold extA at h
  split at h
  · rename_i x hx
    have hok := hD.ext f x hx
    split at h
    · split at h
      · cases h
        cases hl with
        | cons h1 h2 =>
        cases h2
        exact ⟨_, w, μ, hok _ _, Mu.le_refl _, h1, hG, Fr.refl _ _⟩
      · cases h
    · rename_i t e
      split at h
      · split at h
        · rename_i n
          split at h
          · rename_i hbig
            have hbig := Nat.le_of_ble_eq_true hbig
            cases h
            cases hl with
            | cons h1 h2 =>
            cases h2
            cases h1 with
            | int hn =>
            have hn : ((n : Nat) : Int) = _ := hn
            subst hn
            obtain ⟨hu, ps, hrun⟩ := hok
            obtain ⟨cs, r1, r2, _⟩ := Lib.run_makeNoZero (P := P) w ps t e hu n (by omega)
            have ho : OR μ ρ cs.size (.cells cs e (0, 0)) (.cells .e .nilp 0 e) := ⟨cs, rfl, rfl, Nat.zero_le _, fun i hi => by omega⟩
            obtain ⟨g1, g2, g3⟩ := hG.drew.drew.alloc ho
            refine ⟨.slice (some ⟨w.heap.size, 0, none⟩) n cs.size, _, _, ?_, g2, .sl (Mu.upd_self _ _ _) r2 (by simp) (Nat.le_refl _), g1, ((Fr.drew G w).trans (Fr.drew G _)).trans g3⟩
            rw [hrun, r1]; rfl
          · cases h
        · cases h
      · cases h
    · split at h
      · rename_i v0 hv0
        cases h
        obtain ⟨v', q1, q2⟩ := hok l v hv0 μ ρ l' hl w
        exact ⟨v', w, μ, q1, Mu.le_refl _, q2, hG, Fr.refl _ _⟩
      · cases h
  · cases h
end
end Vx
