/-
  Regions that draw their order: 'drawA' is right.
-/
import Derived.Test.YtmgejgbomglegaaGreatDoorVx22
namespace Vx
open Go
theorem clear_get : ∀ (l : List Oper) (E : Tr AV) (t : Nat) (v : AV), (clearA l E).get t = some v → E.get t = some v ∧ ∀ o ∈ l, o.dst ≠ some t
  | [], E, t, v, h => ⟨h, by simp⟩
  | o :: r, E, t, v, h => by
    simp only [clearA] at h
    split at h
    · rename_i hd
      obtain ⟨h1, h2⟩ := clear_get r E t v h
      refine ⟨h1, fun o' ho' => ?_⟩
      rcases List.mem_cons.1 ho' with rfl | ho'
      · rw [hd]; simp
      · exact h2 o' ho'
    · rename_i d hd
      obtain ⟨h1, h2⟩ := clear_get r _ t v h
      rw [Tr.get_put] at h1
      split at h1
      · cases h1
      · rename_i hne
        refine ⟨h1, fun o' ho' => ?_⟩
        rcases List.mem_cons.1 ho' with rfl | ho'
        · rw [hd]; intro e; cases e; exact hne rfl
        · exact h2 o' ho'
/-- That an operation is a call hangs on no memory. -/
theorem opA_call_any {P : Program} {D : Dec} {E : Tr AV} {H H' : Heap} {op : Op} {f : FuncId} {args : List AV} (h : opA P D E H op = .call f args) : opA P D E H' op = .call f args := by
  have v1 : ∀ {x : Option AV} {H : Heap}, val1 x H ≠ .call f args := fun {x H} => by cases x <;> simp [val1]
  have v2 : ∀ {x : Option (AV × Heap)}, val2 x ≠ .call f args := fun {x} => by rcases x with _ | ⟨_, _⟩ <;> simp [val2]
  have vm : ∀ {x : Option Mk} {H : Heap}, mkR x H ≠ .call f args := fun {x H} => by cases x <;> simp [mkR]
  cases op with
  | call c =>
    obtain ⟨callee, cargs, ats⟩ := c
    simp only [opA, callA] at h ⊢
    split at h
    · cases h
    · rename_i l hl
      cases callee with
      | value x =>
        dsimp only at h ⊢
        cases hx : ev E x with
        | none => simp [hx] at h
        | some v =>
          cases v with
          | fn g a c =>
            simp only [hx] at h ⊢
            cases hb : bodied P g with
            | true => simp only [hb] at h ⊢; exact h
            | false => simp only [hb] at h; exact absurd h v2
          | _ => simp [hx] at h
      | invoke r m => exact h
      | builtin bi =>
        exfalso
        cases bi <;> dsimp only at h <;> (repeat' split at h) <;> first | cases h | exact v1 h | exact v2 h
  | _ => exfalso; simp only [opA] at h; (repeat' split at h) <;> first | cases h | exact v1 h | exact vm h
theorem opMk_not_defer {P : Program} {E : Tr AV} {op : Op} {m : Mk} (h : opMk P E op = some m) : ∀ c, op ≠ .defer c := fun c e => by subst e; simp [opMk] at h
section
variable {P : Program} {D : Dec} {rec : Rec} {all : Array Oper} {mt : Tr Nat} {base nt : Nat} {T : Nat → TS} {K : Nat → Kd} {m : Nat} {ρ : Nat → Int}
variable (h : Txt P D rec all mt base nt T K m) {G : Gd} {μ0 μ : Mu} {w0 w : World} {L : List Nat} {c : Nat} {a : Act} {b : Frame} {k : List Item} {cs : List Frame} {l : List Nat} {i : Nat} {o : Oper}
def Clr (T : Nat → TS) (K : Nat → Kd) (base m c : Nat) : Prop := ∀ j o, c ≤ j → j < m → K j = .mk o → (T c).cur.tr.get (base + j) = none
include h
theorem Inv.step (hrec : RecOK P ρ rec) (hD : D.OK P ρ) (hN : NoNG P) (hgi : ∀ k, G.ids k → k < base) (hI : Inv T K all m base nt ρ G μ0 w0 L c a w μ) (hclr : Clr T K base m c) (ho : all[i]? = some o) (hi : i < m) (hng : K i ≠ .gh) (hL : i ∉ L) (he : ∀ e ∈ o.after.toList, bindsA e = true → e.on ∈ L) :
    ∃ a' w' μ' c', Steps P (lone (b.atR a (.inRegion all (i :: l) :: k)) cs w) (lone (b.atR a' (.inRegion all l :: k)) cs w') ∧ a'.defers = a.defers ∧ Inv T K all m base nt ρ G μ0 w0 (i :: L) c' a' w' μ' ∧ Clr T K base m c' := by
  obtain ⟨EL, e1, e2⟩ := hI.E
  obtain ⟨Hc, hO, hG⟩ := hI.H
  obtain ⟨hev, hwa⟩ := e1.evs h hI.clo ho (Nat.le_of_lt hi) hL he
  have hop : ∀ H, opA P D EL H o.op = opA P D (T i).E H o.op := fun H => opA_cong hev
  have hst := h.step i o hi ho
  have hids : ∀ k, (GdL G base all.size (i :: L)).ids k → (GdL G base all.size L).ids k := fun k hk => hk.imp id fun ⟨j, h1, h2, h3⟩ => ⟨j, h1, fun h4 => h2 (List.mem_cons_of_mem _ h4), h3⟩
  have same : (∀ o, K i ≠ .mk o) → Over K base (fun j => j ∈ i :: L ∧ c ≤ j) (T c).cur Hc := fun hne => hO.cong fun j oj hj => by
    have : j ≠ i := fun e => by subst e; exact hne oj hj
    simp [this]
  have mild : ∀ {v : AV} {v' : Value} {w' : World} {μ' : Mu}, Steps P (lone (b.atR a (.inRegion all (i :: l) :: k)) cs w) (lone (b.atR (a.put o.dst v') (.inRegion all l :: k)) cs w') → putA nt (T i).E o.dst v = some (T (i + 1)).E → Mu.le μ μ' → VR μ' ρ v v' → Fr G w w' → K i ≠ .eff →
      (∃ Hc, Over K base (fun j => j ∈ i :: L ∧ c ≤ j) (T c).cur Hc ∧ GR (GdL G base all.size (i :: L)) μ' ρ Hc w') → ∃ a' w' μ' c', Steps P (lone (b.atR a (.inRegion all (i :: l) :: k)) cs w) (lone (b.atR a' (.inRegion all l :: k)) cs w') ∧ a'.defers = a.defers ∧ Inv T K all m base nt ρ G μ0 w0 (i :: L) c' a' w' μ' ∧ Clr T K base m c' :=
    fun hs hp hm hv hF hk hH => let ⟨q1, q2⟩ := hI.mild h ho hi he hp hm hv hF hk hH; ⟨_, _, _, c, hs, q1, q2, hclr⟩
  have wanted : wantedA all (T i).E o = some true → Region.wanted o (yielded all a.tmps) = true := fun hw => wanted_ok e2 (by rw [hwa]; exact hw)
  generalize hTi : T (i + 1) = s' at hst mild
  generalize hKi : K i = ki at hst mild same
  cases hst with
  | skip hw hp =>
    have hw2 := wanted_ok e2 (by rw [hwa]; exact hw)
    have hs := stepR_op_skip (P := P) (b := b) (a := a) (k := k) (cs := cs) (w := w) (ops := all) (i := i) (rest := l) (by simp [ho]; simpa using hw2)
    rw [ho] at hs
    exact mild (.one hs) hp (Mu.le_refl _) (.tup (l' := []) .nil) (Fr.refl _ _) (by simp) ⟨Hc, same (by simp), GR.weak (G' := GdL G base all.size L) hG (fun _ h => h) hids⟩
  | pure hw hpu hoo hp =>
    rename_i v H1 E'
    obtain ⟨x, hx⟩ := pure_form (P := P) (D := D) hpu
    have hv : opA P D EL Hc o.op = .val v Hc := by
      rw [hop, hx]
      rw [hx] at hoo
      rw [(val1_some hoo).1]; rfl
    have hok := op_ok (P := P) hG e2 hD hN o
    rw [hv] at hok
    obtain ⟨nx, v', w', μ', q1, q2, q3, q4, q5, q6⟩ := hok
    have hsem := Oper.semAt_eq b.roundOf a.eval o (opA_not_defer hv (by simp) (by simp))
    exact mild (.one (st_val ho (wanted hw) (by rw [hsem]; exact q1) q2)) hp q3 q4 (q6.mono fun _ h => h) (by simp) ⟨Hc, same (by simp), GR.weak (G' := GdL G base all.size L) q5 (fun _ h => h) hids⟩
  | load hw hopl hx hl hs hp =>
    rename_i t x ad v E'
    have hld := hI.load h ho hi hL he hKi hl hs
    have hld2 : loadA P Hc t ad = some v := by
      refine loadA_mono (fun k o hk => ?_) hld
      by_cases ex : ∃ j oj, (j ∈ L ∧ c ≤ j) ∧ K j = .mk oj ∧ k = base + j
      · obtain ⟨j, oj, h1, h2, rfl⟩ := ex
        rw [hclr j oj h1.2 (hI.lt j h1.1) h2] at hk; cases hk
      · rw [hO.old k fun j oj h1 h2 h3 => ex ⟨j, oj, h1, h2, h3⟩]; exact hk
    have hv : opA P D EL Hc o.op = .val v Hc := by
      rw [hop, hopl]
      simp only [opA, hx, hld2, val1]
    have hok := op_ok (P := P) hG e2 hD hN o
    rw [hv] at hok
    obtain ⟨nx, v', w', μ', q1, q2, q3, q4, q5, q6⟩ := hok
    have hsem := Oper.semAt_eq b.roundOf a.eval o (opA_not_defer hv (by simp) (by simp))
    exact mild (.one (st_val ho (wanted hw) (by rw [hsem]; exact q1) q2)) hp q3 q4 (q6.mono fun _ h => h) (by simp) ⟨Hc, same (by simp), GR.weak (G' := GdL G base all.size L) q5 (fun _ h => h) hids⟩
  | mk hw hm hp =>
    rename_i mk E'
    have hm2 : opMk P EL o.op = some mk := by rw [opMk_cong hev]; exact hm
    obtain ⟨s, hs, x, n, v', w1, hw1, q1, q2, q3⟩ := mk_ok (P := P) (w := w) e2 hm2
    have hG1 : GR (GdL G base all.size L) μ ρ Hc w1 := by rcases hw1 with rfl | rfl; exact hG; exact GR.drew (G := GdL G base all.size L) hG
    have hF1 : Fr G w w1 := by rcases hw1 with rfl | rfl; exact Fr.refl _ _; exact Fr.drew _ _
    have hs1 : w1.heap.size = w.heap.size := by rcases hw1 with rfl | rfl <;> rfl
    obtain ⟨g1, g2, g3⟩ := hG1.allocAt (k := base + i) (.inr ⟨i, Nat.lt_of_lt_of_le hi h.le, hL, rfl⟩) q2
    have hsem := Oper.semAt_eq b.roundOf a.eval o (opMk_not_defer hm2)
    have hci : c ≤ i := by
      rcases Nat.lt_or_ge i c with h1 | h1
      · exact absurd (hI.ahead i h1 (.inr ⟨_, hKi⟩)) hL
      · exact h1
    refine mild (.one (st_val (nx := .value v') ho (wanted hw) (by rw [hsem, hs]; simp [q1]) (.inl rfl))) hp g2 (q3 (base + i) _ (by rw [Mu.upd_self, hs1])) (hF1.trans (g3.mono fun _ h => h)) (by simp) ⟨_, (hO.put hKi).cong fun j oj _ => ?_, g1.weak (fun _ h => h) fun k hk => ⟨hids k hk, ?_⟩⟩
    · simp only [List.mem_cons]
      constructor
      · rintro (⟨r1, r2⟩ | rfl)
        · exact ⟨.inr r1, r2⟩
        · exact ⟨.inl rfl, hci⟩
      · rintro ⟨rfl | r1, r2⟩
        · exact .inr rfl
        · exact .inl ⟨r1, r2⟩
    · rcases hk with hk | ⟨j, r1, r2, rfl⟩
      · have := hgi k hk; omega
      · intro e
        have : j = i := by omega
        subst this
        exact r2 List.mem_cons_self
  | clo hw hoo hc hp =>
    rename_i f args v E'
    have hcall : opA P D EL Hc o.op = .call f args := by
      rw [hop]
      exact opA_call_any hoo
    obtain ⟨v', w', q1, q2, q3, q4⟩ := clo_ok (b := b) (k := k) (cs := cs) (l := l) hrec hD hN hG e2 ho (wanted hw) hcall hc
    exact mild q1 hp (Mu.le_refl _) q2 (q4.mono fun _ h => h) (by simp) ⟨Hc, same (by simp), GR.weak (G' := GdL G base all.size L) q3 (fun _ h => h) hids⟩
  | eff hw hb hef hl hp =>
    rename_i v H' E'
    have hlate : ∀ e, i < e → e < m → K e = .eff → e ∉ L := fun e h1 h2 h3 heL => by
      obtain ⟨oe, hoe, hse⟩ := h.at h2
      rw [h3] at hse
      generalize T (e + 1) = se at hse
      cases hse with
      | eff _ hbe _ _ _ =>
      refine hL (h.plan.closed hI.clo e oe hoe (hI.clo e heL oe hoe) i ?_)
      rw [bitA_eq]
      have := h.am (Nat.le_of_lt h2) h1 (.inr hKi)
      rw [← hbe, Nat.testBit_and, Bool.and_eq_true] at this
      exact this.2
    obtain ⟨hci, hmk, hno⟩ := hI.before h ho (Nat.le_of_lt hi) hL he hb hlate
    obtain ⟨G', g1, g2, g3, g4, g5, g6⟩ := hI.around h hclr (Nat.le_of_lt hi) hL hci hmk hno
    rw [← hop] at hef
    obtain ⟨v', w', μ', q1, q2, q3, q4, q5⟩ := (eff_ok (b := b) (k := k) (cs := cs) (l := l) hrec hD hN g3 e2 ho (wanted hw)).1 v H' hef
    obtain ⟨Hc2, hO2⟩ := Over.exist (K := K) (base := base) (c := i + 1) (cur := H') L
    have hG2 := g5 μ' H' w' q2 q4 q5 Hc2 hO2
    have hcur : (T (i + 1)).cur = H' := by rw [hTi]
    have hp2 : putA nt (T i).E o.dst v = some (T (i + 1)).E := by rw [hTi]; exact hp
    obtain ⟨r1, r2⟩ := hI.grow h ho hi he hp2 q2 q3 (q5.mono g1) (c' := i + 1) (by omega) (.inr ⟨i, rfl, hKi, List.mem_cons_self⟩) (fun e heL hke => by
        rcases List.mem_cons.1 heL with rfl | heL
        · omega
        · have := hI.eff e heL hke; omega) (fun j hj hkj => by
        by_cases e : j = i
        · subst e; exact List.mem_cons_self
        · exact List.mem_cons_of_mem _ (hmk j (by omega) hkj)) ⟨Hc2, by
          rw [hcur]
          refine hO2.cong fun j oj _ => ?_
          simp only [List.mem_cons]
          constructor
          · rintro ⟨s1, s2⟩; exact ⟨.inr s1, s2⟩
          · rintro ⟨rfl | s1, s2⟩
            · omega
            · exact ⟨s1, s2⟩, hG2.weak (fun _ h => h) hids⟩
    exact ⟨_, _, _, i + 1, q1, r1, r2, fun j oj h1 h2 h3 => by rw [hcur]; exact g6 μ' H' w' q2 q4 j oj (by omega) h2 h3⟩
  | gh hp => exact absurd hKi hng
/-- The operation that panics. -/
theorem Inv.panics (hrec : RecOK P ρ rec) (hD : D.OK P ρ) (hN : NoNG P) (hI : Inv T K all m base nt ρ G μ0 w0 L c a w μ) (hclr : Clr T K base m c) {p : Nat} (ho : all[p]? = some o) (hpm : p ≤ m) (hlate : ∀ e, p < e → e < m → K e ≠ .eff) (hL : p ∉ L) (he : ∀ e ∈ o.after.toList, bindsA e = true → e.on ∈ L) {ch : List AEnt} {H' : Heap}
    (hp : TPan P D rec all mt p o (T p) ch H') : ∃ ch' w' μ', Steps P (lone (b.atR a (.inRegion all (p :: l) :: k)) cs w) (lone { b.atR a (.inRegion all (p :: l) :: k) with mode := .panicking ch' } cs w') ∧ Mu.le μ0 μ' ∧
      ER μ' ρ nt (clearA all.toList (T 0).E) a.tmps ∧ L2 (EntR μ' ρ) ch ch' ∧ GR G μ' ρ H' w' ∧ Fr G w0 w' := by
  obtain ⟨EL, e1, e2⟩ := hI.E
  obtain ⟨hev, hwa⟩ := e1.evs h hI.clo ho hpm hL he
  obtain ⟨hw, hb, hef⟩ := hp
  obtain ⟨hci, hmk, hno⟩ := hI.before h ho hpm hL he hb (fun e h1 h2 h3 _ => hlate e h1 h2 h3)
  obtain ⟨G', g1, g2, g3, g4, g5, g6⟩ := hI.around h hclr hpm hL hci hmk hno
  rw [← opA_cong hev] at hef
  obtain ⟨ch', w', μ', q1, q2, q3, q4, q5⟩ := (eff_ok (b := b) (k := k) (cs := cs) (l := l) hrec hD hN g3 e2 ho (wanted_ok e2 (by rw [hwa]; exact hw))).2 ch H' hef
  refine ⟨ch', w', μ', q1, Mu.le_trans hI.mu q2, ⟨e2.1, fun t v hv => ?_⟩, q3, q4.weak g1 (fun k hk => by rw [g2]; exact .inl hk), hI.fr.trans (q5.mono g1)⟩
  obtain ⟨c1, c2⟩ := clear_get all.toList (T 0).E t v hv
  refine (e2.mono q2).2 t v ?_
  rw [(e1 t).2 fun k o' _ hk => c2 o' (by rw [← Array.getElem?_toList] at hk; exact List.mem_of_getElem? hk)]
  exact c1
end
end Vx
