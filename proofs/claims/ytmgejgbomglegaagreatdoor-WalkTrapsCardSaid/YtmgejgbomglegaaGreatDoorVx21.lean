/-
  Regions that draw their order: any order comes to what the order of the text has come to.
-/
import Derived.Test.YtmgejgbomglegaaGreatDoorVx20
namespace Vx
open Go

/-- What runs is right. -/
def RecOK (P : Program) (ρ : Nat → Int) (rec : Rec) : Prop :=
  ∀ (G : Gd) (μ : Mu) (m : AM) (cs0 : List Frame) (fr : Frame) (cs : List Frame) (w : World), MR G μ ρ m cs0 fr cs w → ∀ (fn : FuncId) (H' : Heap),
    (∀ v, rec m = some (fn, .ret v, H') → ∃ v' w' μ', Mu.le μ μ' ∧ VR μ' ρ v v' ∧ GR G μ' ρ H' w' ∧ Fr G w w' ∧
      ((∃ fr', Steps P (lone fr cs w) (lone fr' cs0 w') ∧ fr'.fn = fn ∧ fr'.leaving P w' (.returned v')) ∨ (fn = 0 ∧ ∀ c cs', cs0 = c :: cs' → Steps P (lone fr cs w) (lone (c.finish v') cs' w')))) ∧
    (∀ ch, rec m = some (fn, .pan ch, H') → ∃ ch' fr' w' μ', Mu.le μ μ' ∧ L2 (EntR μ' ρ) ch ch' ∧ GR G μ' ρ H' w' ∧ Fr G w w' ∧ Steps P (lone fr cs w) (lone fr' cs0 w') ∧ fr'.fn = fn ∧ fr'.leaving P w' (.panicked ch'))
section
variable {P : Program} {D : Dec} {rec : Rec} {ρ : Nat → Int} {G : Gd} {μ : Mu} {H : Heap} {w : World}
theorem RecOK.ret (h : RecOK P ρ rec) {m : AM} {c fr : Frame} {cs' cs : List Frame} (hm : MR G μ ρ m (c :: cs') fr cs w) {fn : FuncId} {v : AV} {H' : Heap} (hr : rec m = some (fn, .ret v, H')) :
    ∃ v' w' μ', Mu.le μ μ' ∧ VR μ' ρ v v' ∧ GR G μ' ρ H' w' ∧ Fr G w w' ∧ Steps P (lone fr cs w) (lone (c.finish v') cs' w') := by
  obtain ⟨v', w', μ', h1, h2, h3, h4, h5⟩ := (h G μ m _ fr cs w hm fn H').1 v hr
  refine ⟨v', w', μ', h1, h2, h3, h4, ?_⟩
  rcases h5 with ⟨fr', s1, _, s2⟩ | ⟨_, h5⟩
  · exact s1.trans (.one (step_leave_returned s2))
  · exact h5 c cs' rfl
theorem RecOK.pan (h : RecOK P ρ rec) {m : AM} {c fr : Frame} {cs' cs : List Frame} (hm : MR G μ ρ m (c :: cs') fr cs w) {fn : FuncId} {ch : List AEnt} {H' : Heap} (hr : rec m = some (fn, .pan ch, H')) :
    ∃ ch' w' μ', Mu.le μ μ' ∧ L2 (EntR μ' ρ) ch ch' ∧ GR G μ' ρ H' w' ∧ Fr G w w' ∧ Steps P (lone fr cs w) (lone (c.raise ch') cs' w') := by
  obtain ⟨ch', fr', w', μ', h1, h2, h3, h4, h5, _, h6⟩ := (h G μ m _ fr cs w hm fn H').2 ch hr
  exact ⟨ch', w', μ', h1, h2, h3, h4, h5.trans (.one (step_leave_panicked h6))⟩

variable {E : Tr AV} {nt : Nat} {a : Act} {b : Frame} {k : List Item} {cs : List Frame} {all : Array Oper} {i : Nat} {l : List Nat} {o : Oper}
/-- An operation with an effect. -/
theorem eff_ok (hrec : RecOK P ρ rec) (hD : D.OK P ρ) (hN : NoNG P) (hG : GR G μ ρ H w) (hE : ER μ ρ nt E a.tmps) (ho : all[i]? = some o) (hw : Region.wanted o (yielded all a.tmps) = true) :
    (∀ v H', effA P D rec H (opA P D E H o.op) = .ok v H' → ∃ v' w' μ', Steps P (lone (b.atR a (.inRegion all (i :: l) :: k)) cs w) (lone (b.atR (a.put o.dst v') (.inRegion all l :: k)) cs w') ∧ Mu.le μ μ' ∧ VR μ' ρ v v' ∧ GR G μ' ρ H' w' ∧ Fr G w w') ∧
    (∀ ch H', effA P D rec H (opA P D E H o.op) = .pan ch H' → ∃ ch' w' μ', Steps P (lone (b.atR a (.inRegion all (i :: l) :: k)) cs w) (lone { b.atR a (.inRegion all (i :: l) :: k) with mode := .panicking ch' } cs w') ∧ Mu.le μ μ' ∧ L2 (EntR μ' ρ) ch ch' ∧ GR G μ' ρ H' w' ∧ Fr G w w') := by
  have hok := op_ok (P := P) hG hE hD hN o
  have hsem : opA P D E H o.op ≠ .bad → (∀ d, opA P D E H o.op ≠ .dfr d) → o.semAt b.roundOf a.eval = execOp a.eval o := fun hb hd => Oper.semAt_eq _ _ _ (opA_not_defer rfl hb hd)
  generalize opA P D E H o.op = r at hok hsem
  -- a frame that is run above this one
  have above : ∀ (g : AF) (fr : Frame), g.mode = .run → FR μ ρ g fr → step P (lone (b.atR a (.inRegion all (i :: l) :: k)) cs w) = .next (lone fr (b.atR a (.inRegion all (i :: l) :: k) :: cs) w) →
      (∀ fn v H', rec ⟨g, [], H⟩ = some (fn, .ret v, H') → ∃ v' w' μ', Steps P (lone (b.atR a (.inRegion all (i :: l) :: k)) cs w) (lone (b.atR (a.put o.dst v') (.inRegion all l :: k)) cs w') ∧ Mu.le μ μ' ∧ VR μ' ρ v v' ∧ GR G μ' ρ H' w' ∧ Fr G w w') ∧
      (∀ fn ch H', rec ⟨g, [], H⟩ = some (fn, .pan ch, H') → ∃ ch' w' μ', Steps P (lone (b.atR a (.inRegion all (i :: l) :: k)) cs w) (lone { b.atR a (.inRegion all (i :: l) :: k) with mode := .panicking ch' } cs w') ∧ Mu.le μ μ' ∧ L2 (EntR μ' ρ) ch ch' ∧ GR G μ' ρ H' w' ∧ Fr G w w') := by
    intro g fr _ hfr hst
    have hm : MR G μ ρ ⟨g, [], H⟩ (b.atR a (.inRegion all (i :: l) :: k) :: cs) fr (b.atR a (.inRegion all (i :: l) :: k) :: cs) w := ⟨hfr, ⟨[], rfl, .nil⟩, hG⟩
    refine ⟨fun fn v H' hr => ?_, fun fn ch H' hr => ?_⟩
    · obtain ⟨v', w', μ', q1, q2, q3, q4, q5⟩ := hrec.ret hm hr
      rw [fin_atR ho] at q5
      exact ⟨v', w', μ', (Steps.one hst).trans q5, q1, q2, q3, q4⟩
    · obtain ⟨ch', w', μ', q1, q2, q3, q4, q5⟩ := hrec.pan hm hr
      rw [Frame.raise_atR] at q5
      exact ⟨ch', w', μ', (Steps.one hst).trans q5, q1, q2, q3, q4⟩
  cases r with
  | val v H1 =>
    have hsem := hsem (by simp) (by simp)
    obtain ⟨nx, v', w', μ', q1, q2, q3, q4, q5, q6⟩ := hok
    refine ⟨fun u H' he => ?_, fun ch H' he => by simp [effA] at he⟩
    simp only [effA, EffR.ok.injEq] at he
    obtain ⟨rfl, rfl⟩ := he
    exact ⟨v', w', μ', .one (st_val ho hw (by rw [hsem]; exact q1) q2), q3, q4, q5, q6⟩
  | call f args =>
    have hsem := hsem (by simp) (by simp)
    obtain ⟨args', q1, q2⟩ := hok
    simp only [effA]
    split
    · rename_i v1 H1 hv
      obtain ⟨v', w', μ', r0, r1, r2, r3, r4⟩ := hD.hp _ _ _ _ _ hv _ _ w _ hG q2 (b.atR a (.inRegion all (i :: l) :: k)) cs
      rw [fin_atR ho] at r4
      have hst := st_enter (P := P) (b := b) (a := a) (k := k) (cs := cs) (rest := l) ho hw (by rw [hsem]; exact q1)
      exact ⟨fun u H' he => by cases he; exact ⟨v', w', μ', (Steps.one hst).trans r4, r0, r1, r2, r3⟩, fun _ _ h => (by cases h)⟩
    · split
      · exact ⟨fun _ _ h => (by cases h), fun _ _ h => (by cases h)⟩
      · rename_i g hg
        obtain ⟨g1, g2, g3, g4, g5⟩ := enter_ok hg q2
        have hst := st_enter (P := P) (b := b) (a := a) (k := k) (cs := cs) (rest := l) ho hw (by rw [hsem]; exact q1)
        obtain ⟨A1, A2⟩ := above g _ (by unfold enterA at hg; split at hg <;> (try cases hg); split at hg <;> (try cases hg); split at hg <;> (try cases hg); rfl) g1 hst
        split
        · rename_i hr; exact ⟨fun u H' he => by cases he; exact A1 _ _ _ hr, fun _ _ h => by cases h⟩
        · rename_i hr; exact ⟨fun _ _ h => (by cases h), fun u H' he => by cases he; exact A2 _ _ _ hr⟩
        · exact ⟨fun _ _ h => (by cases h), fun _ _ h => (by cases h)⟩
  | yield kk args =>
    have hsem := hsem (by simp) (by simp)
    obtain ⟨lb, ln, args', q0, q1, q2⟩ := hok
    simp only [effA]
    split
    · rename_i st pe fn' nt' tm ps as bd d hl
      split
      · rename_i E' hb
        obtain ⟨tmps, Dd, m, r1, r2, r3⟩ := hG.loopAt hl q0
        obtain ⟨b1, b2⟩ := bind_ok _ _ _ _ _ _ _ r2 q2 hb
        have hy := run_yield (P := P) (args := args'.toArray) r3 (by simp [← b1])
        rw [← q1, ← hsem] at hy
        have hst := st_round (P := P) (b := b) (k := k) (cs := cs) (rest := l) ho hw hy
        have e : ((ps.zip args'.toArray).foldl (fun tmps (t, a) => tmps.setIfInBounds t a) tmps) = ((ps.toList.zip args').foldl (fun tmps (t, a) => tmps.setIfInBounds t a) tmps) := by
          rw [← Array.foldl_toList, Array.toList_zip]
        obtain ⟨A1, A2⟩ := above ⟨fn', false, some kk, nt', E', [.code as, .beginRound, .code bd], [], .run⟩ _ rfl ⟨rfl, rfl, .some q0, (by
          show ER μ ρ nt' E' ((ps.zip args'.toArray).foldl (fun tmps (t, a) => tmps.setIfInBounds t a) tmps)
          rw [e]; exact b2), fun _ => .cons .code (.cons .beginRound (.cons .code .nil)), .nil, .run⟩ hst
        split
        · rename_i hr; exact ⟨fun u H' he => by cases he; exact A1 _ _ _ hr, fun _ _ h => by cases h⟩
        · rename_i hr; exact ⟨fun _ _ h => (by cases h), fun u H' he => by cases he; exact A2 _ _ _ hr⟩
        · exact ⟨fun _ _ h => (by cases h), fun _ _ h => (by cases h)⟩
      · exact ⟨fun _ _ h => (by cases h), fun _ _ h => (by cases h)⟩
    · exact ⟨fun _ _ h => (by cases h), fun _ _ h => (by cases h)⟩
  | pan v =>
    have hsem := hsem (by simp) (by simp)
    obtain ⟨v', q1, q2⟩ := hok
    refine ⟨fun u H' he => by simp [effA] at he, fun ch H' he => ?_⟩
    simp only [effA, EffR.pan.injEq] at he
    obtain ⟨rfl, rfl⟩ := he
    exact ⟨_, w, μ, .one (st_pan (rest := l) ho hw (by rw [hsem]; exact q1)), Mu.le_refl _, .cons (.mk q2) .nil, hG, Fr.refl _ _⟩
  | _ => exact ⟨fun _ _ h => by simp [effA] at h, fun _ _ h => by simp [effA] at h⟩
/-- A call that hangs on no memory. -/
theorem clo_ok (hrec : RecOK P ρ rec) (hD : D.OK P ρ) (hN : NoNG P) (hG : GR G μ ρ H w) (hE : ER μ ρ nt E a.tmps) (ho : all[i]? = some o) (hw : Region.wanted o (yielded all a.tmps) = true) {f : FuncId} {args : List AV}
    (hop : opA P D E H o.op = .call f args) {v : AV} (hc : closedCall P D rec f args = some v) :
    ∃ v' w', Steps P (lone (b.atR a (.inRegion all (i :: l) :: k)) cs w) (lone (b.atR (a.put o.dst v') (.inRegion all l :: k)) cs w') ∧ VR μ ρ v v' ∧ GR G μ ρ H w' ∧ Fr G w w' := by
  have hok := op_ok (P := P) hG hE hD hN o
  have hsem : o.semAt b.roundOf a.eval = execOp a.eval o := Oper.semAt_eq _ _ _ (opA_not_defer hop (by simp) (by simp))
  rw [hop] at hok
  obtain ⟨args', q1, q2⟩ := hok
  have hst := st_enter (P := P) (b := b) (a := a) (k := k) (cs := cs) (rest := l) ho hw (by rw [hsem]; exact q1)
  unfold closedCall at hc
  split at hc
  · rename_i u hu
    cases hc
    obtain ⟨v', w', r1, r2, r3⟩ := plug_ok hD hu q2 w (b.atR a (.inRegion all (i :: l) :: k)) cs
    rw [fin_atR ho] at r3
    obtain ⟨s1, s2⟩ := hG.all r2
    exact ⟨v', w', (Steps.one hst).trans r3, r1, s1, s2⟩
  split at hc
  · cases hc
  · rename_i hcl
    split at hc
    · cases hc
    · rename_i g hg
      split at hc
      · rename_i fn u H' hr
        split at hc
        · rename_i hcv
          cases hc
          obtain ⟨g1, _⟩ := enter_ok hg (closedL_ok (μ' := fun _ => none) hcl q2)
          obtain ⟨v', w', μ', r1, r2, r3, r4, r5⟩ := hrec.ret (G := ⟨fun b => b < w.heap.size, fun _ => False⟩) (c := b.atR a (.inRegion all (i :: l) :: k)) (cs' := cs) ⟨g1, ⟨[], rfl, .nil⟩, GR.empty w⟩ hr
          rw [fin_atR ho] at r5
          obtain ⟨s1, s2⟩ := hG.all r4
          exact ⟨v', w', (Steps.one hst).trans r5, closedA_ok hcv r2, s1, s2⟩
        · cases hc
      · cases hc
end

section
variable {P : Program} {D : Dec} {rec : Rec} {all : Array Oper} {mt : Tr Nat} {base nt : Nat} {T : Nat → TS} {K : Nat → Kd} {m : Nat} {ρ : Nat → Int}
/-- What has been written, where L has been gone over. -/
def EI (all : Array Oper) (E0 Em : Tr AV) (L : List Nat) (E : Tr AV) : Prop :=
  ∀ t, (∀ k o, k ∈ L → all[k]? = some o → o.dst = some t → E.get t = Em.get t) ∧ ((∀ k o, k ∈ L → all[k]? = some o → o.dst ≠ some t) → E.get t = E0.get t)
structure Inv (T : Nat → TS) (K : Nat → Kd) (all : Array Oper) (m base nt : Nat) (ρ : Nat → Int) (G : Gd) (μ0 : Mu) (w0 : World) (L : List Nat) (c : Nat) (a : Act) (w : World) (μ : Mu) : Prop where
  lt : ∀ i ∈ L, i < m
  clo : ∀ i ∈ L, ∀ o, all[i]? = some o → ∀ e ∈ o.after.toList, bindsA e = true → e.on ∈ L
  cm : c ≤ m
  cut : c = 0 ∨ ∃ e, c = e + 1 ∧ K e = .eff ∧ e ∈ L
  eff : ∀ e ∈ L, K e = .eff → e < c
  ahead : ∀ i, i < c → (K i = .eff ∨ ∃ o, K i = .mk o) → i ∈ L
  E : ∃ EL, EI all (T 0).E (T m).E L EL ∧ ER μ ρ nt EL a.tmps
  H : ∃ Hc, Over K base (fun i => i ∈ L ∧ c ≤ i) (T c).cur Hc ∧ GR ⟨G.blk, fun k => G.ids k ∨ ∃ i, i < all.size ∧ i ∉ L ∧ k = base + i⟩ μ ρ Hc w
  mu : Mu.le μ0 μ
  fr : Fr G w0 w
variable (h : Txt P D rec all mt base nt T K m) {G : Gd} {μ0 μ : Mu} {w0 w : World} {L : List Nat} {c : Nat} {a : Act}
include h
/-- What an operation reads is what it has read in the order of the text. -/
theorem EI.reads {EL : Tr AV} (hE : EI all (T 0).E (T m).E L EL) (hclo : ∀ i ∈ L, ∀ o, all[i]? = some o → ∀ e ∈ o.after.toList, bindsA e = true → e.on ∈ L) {i : Nat} {o : Oper} (ho : all[i]? = some o) (hi : i ≤ m) (hL : i ∉ L)
    (he : ∀ e ∈ o.after.toList, bindsA e = true → e.on ∈ L) {t : Tmp} (hr : .tmp t ∈ o.op.operands.toList ∨ ∃ j w oj, o.guard = some (j, w) ∧ all[j]? = some oj ∧ oj.dst = some t) : EL.get t = (T i).E.get t := by
  by_cases ex : ∃ (k : Nat) (o' : Oper), all[k]? = some o' ∧ o'.dst = some t
  · obtain ⟨k, o', hk, hd⟩ := ex
    rcases h.plan.reads i o t ho hr k o' hk hd with ⟨h1, h2⟩ | ⟨h1, h2⟩
    · have hkL : k ∈ L := h.plan.closed hclo i o ho he k h2
      rw [(hE t).1 k o' hkL hk hd]
      exact (h.wrote hk hd h1 hi).symm
    · have hkL : k ∉ L := fun hkL => hL (h.plan.closed hclo k o' hk (hclo k hkL o' hk) i h2)
      rw [(hE t).2 fun k' o2 h3 h4 h5 => hkL (by rw [h.plan.uniq k k' o' o2 t hk h4 hd h5]; exact h3)]
      refine (h.env t (Nat.zero_le _) hi fun k' o2 _ h3 h4 h5 => ?_).symm
      have := h.plan.uniq k k' o' o2 t hk h4 hd h5
      omega
  · have hno : ∀ (k : Nat) (o' : Oper), all[k]? = some o' → o'.dst ≠ some t := fun k o' h1 h2 => ex ⟨k, o', h1, h2⟩
    rw [(hE t).2 fun k o' _ h1 => hno k o' h1]
    exact (h.env t (Nat.zero_le _) hi fun k o' _ _ h1 => hno k o' h1).symm
theorem EI.evs {EL : Tr AV} (hE : EI all (T 0).E (T m).E L EL) (hclo : ∀ i ∈ L, ∀ o, all[i]? = some o → ∀ e ∈ o.after.toList, bindsA e = true → e.on ∈ L) {i : Nat} {o : Oper} (ho : all[i]? = some o) (hi : i ≤ m) (hL : i ∉ L)
    (he : ∀ e ∈ o.after.toList, bindsA e = true → e.on ∈ L) : (∀ x ∈ o.op.operands.toList, ev EL x = ev (T i).E x) ∧ wantedA all EL o = wantedA all (T i).E o := by
  refine ⟨fun x hx => ?_, ?_⟩
  · cases x with
    | tmp t => exact hE.reads h hclo ho hi hL he (.inl hx)
    | _ => rfl
  · unfold wantedA
    cases hg : o.guard with
    | none => rfl
    | some jw =>
      obtain ⟨j, wv⟩ := jw
      dsimp only
      cases hj : nth all.toList j with
      | none => rfl
      | some oj =>
        dsimp only
        cases hd : oj.dst with
        | none => rfl
        | some d =>
          dsimp only
          rw [hE.reads h hclo ho hi hL he (.inr ⟨j, wv, oj, hg, by rw [nth_eq] at hj; simpa using hj, hd⟩)]
theorem EI.put {EL EL' : Tr AV} (hE : EI all (T 0).E (T m).E L EL) {i : Nat} {o : Oper} (ho : all[i]? = some o) (hi : i < m) {v : AV} (hp : putA nt (T i).E o.dst v = some (T (i + 1)).E) (hp' : putA nt EL o.dst v = some EL') : EI all (T 0).E (T m).E (i :: L) EL' := by
  intro t
  refine ⟨fun k o' hk hok hd => ?_, fun hno => ?_⟩
  · by_cases e : o.dst = some t
    · obtain rfl := h.plan.uniq i k o o' t ho hok e hd
      rw [← h.wrote ho e (Nat.lt_succ_self _) (by omega : i + 1 ≤ m)]
      rcases putA_inv hp with ⟨e1, _⟩ | ⟨d, e1, _, e2⟩
      · rw [e] at e1; cases e1
      · rcases putA_inv hp' with ⟨e3, _⟩ | ⟨d', e3, _, e4⟩
        · rw [e] at e3; cases e3
        · rw [e] at e1 e3; cases e1; cases e3
          rw [e2, e4, Tr.get_put, Tr.get_put, if_pos rfl, if_pos rfl]
    · have hk' : k ∈ L := by
        rcases List.mem_cons.1 hk with rfl | hk
        · rw [ho] at hok; cases hok; exact absurd hd e
        · exact hk
      rw [← (hE t).1 k o' hk' hok hd]
      rcases putA_inv hp' with ⟨_, e2⟩ | ⟨d, e1, _, e2⟩
      · rw [e2]
      · rw [e2, Tr.get_put, if_neg]
        intro e3; subst e3; exact e e1
  · rw [← (hE t).2 fun k o' hk hok => hno k o' (List.mem_cons_of_mem _ hk) hok]
    have := hno i o List.mem_cons_self ho
    rcases putA_inv hp' with ⟨_, e2⟩ | ⟨d, e1, _, e2⟩
    · rw [e2]
    · rw [e2, Tr.get_put, if_neg]
      intro e3; subst e3; exact this e1
/-- The cut, as an operation that has an effect sees it. -/
theorem Inv.before (hI : Inv T K all m base nt ρ G μ0 w0 L c a w μ) {i : Nat} {o : Oper} (ho : all[i]? = some o) (hi : i ≤ m) (hL : i ∉ L) (he : ∀ e ∈ o.after.toList, bindsA e = true → e.on ∈ L)
    (hb : ((T i).am ||| (T i).xm) &&& og (mt.get i) 0 = (T i).am ||| (T i).xm) (hlate : ∀ e, i < e → e < m → K e = .eff → e ∉ L) : c ≤ i ∧ (∀ j, j < i → (K j = .eff ∨ ∃ o, K j = .mk o) → j ∈ L) ∧ (∀ e, c ≤ e → e < i → K e ≠ .eff) := by
  have h1 : ∀ j, j < i → (K j = .eff ∨ ∃ o, K j = .mk o) → j ∈ L := fun j hj hk => by
    refine h.plan.closed hI.clo i o ho he j ?_
    rw [bitA_eq]
    have := h.am hi hj hk.symm
    rw [← hb, Nat.testBit_and, Bool.and_eq_true] at this
    exact this.2
  refine ⟨?_, h1, fun e hc hei hk => ?_⟩
  · rcases hI.cut with rfl | ⟨e, rfl, hk, heL⟩
    · exact Nat.zero_le _
    · have hne : e ≠ i := fun e1 => hL (e1 ▸ heL)
      rcases Nat.lt_or_ge i e with h2 | h2
      · exact absurd heL (hlate e h2 (hI.lt e heL) hk)
      · omega
  · have := hI.eff e (h1 e hei (.inl hk)) hk
    omega
end
end Vx
