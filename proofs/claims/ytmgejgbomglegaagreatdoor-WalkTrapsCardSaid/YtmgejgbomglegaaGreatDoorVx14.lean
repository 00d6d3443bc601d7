/-
  A step of the abstract machine is so many steps of the model's: the cases.
-/
import Derived.Test.YtmgejgbomglegaaGreatDoorVx13
namespace Vx
open Go

def SROK (P : Program) (G : Gd) (μ : Mu) (ρ : Nat → Int) (cs0 : List Frame) (fr : Frame) (cs : List Frame) (w : World) : SR → Prop
  | .next m' => ∃ fr' cs' w' μ', Steps P (lone fr cs w) (lone fr' cs' w') ∧ Mu.le μ μ' ∧ MR G μ' ρ m' cs0 fr' cs' w' ∧ Fr G w w'
  | .fin fn (.ret v) H' => ∃ v', fr.fn = fn ∧ fr.leaving P w (.returned v') ∧ VR μ ρ v v' ∧ GR G μ ρ H' w ∧ cs = cs0
  | .fin fn (.pan c) H' => ∃ c', fr.fn = fn ∧ fr.leaving P w (.panicked c') ∧ L2 (EntR μ ρ) c c' ∧ GR G μ ρ H' w ∧ cs = cs0
  | .finR v H' => ∃ v' w', VR μ ρ v v' ∧ GR G μ ρ H' w' ∧ Fr G w w' ∧ cs = cs0 ∧ ∀ c cs', cs0 = c :: cs' → step P (lone fr cs w) = .next (lone (c.finish v') cs' w')
  | .bad => True
/-- What walks the regions that draw their order is right. -/
def RgOK (P : Program) (ρ : Nat → Int) (rg : Rg) : Prop :=
  ∀ (G : Gd) (μ : Mu) (H : Heap) (w : World) (nt : Nat) (E : Tr AV) (b : Frame) (a : Act) (k : List Item) (cs : List Frame) (id : Nat) (ops : Array Oper), ER μ ρ nt E a.tmps → GR G μ ρ H w →
    match rg nt E H ops with
    | .ok E' H' => ∃ a' w' μ', Steps P (lone (b.atR a (.code (.region id ops true) :: k)) cs w) (lone (b.atR a' k) cs w') ∧ a'.defers = a.defers ∧ Mu.le μ μ' ∧ ER μ' ρ nt E' a'.tmps ∧ GR G μ' ρ H' w' ∧ Fr G w w'
    | .pan E' ch H' => ∃ (a' : Act) (w' : World) (μ' : Mu) (todo' : List Item) (ch' : List PanicEntry), Steps P (lone (b.atR a (.code (.region id ops true) :: k)) cs w) (lone { b.atR a' todo' with mode := .panicking ch' } cs w') ∧
        a'.defers = a.defers ∧ Mu.le μ μ' ∧ ER μ' ρ nt E' a'.tmps ∧ L2 (EntR μ' ρ) ch ch' ∧ GR G μ' ρ H' w' ∧ Fr G w w'
    | .bad => True

/-- The frame at hand and its surroundings, while it runs. -/
structure At (G : Gd) (μ : Mu) (ρ : Nat → Int) (fn : FuncId) (df : Bool) (ro : Option Nat) (nt : Nat) (E : Tr AV) (dfs : List ADef) (csA : List AF) (H : Heap) (cs0 : List Frame) (b : Frame) (a : Act) (cs : List Frame) (w : World) : Prop where
  fn : b.fn = fn
  kind : b.kind = kindOf df
  ro : RoR μ ro b.roundOf
  E : ER μ ρ nt E a.tmps
  defers : L2 (DR μ ρ) dfs a.defers
  cs : ∃ cs1, cs = cs1 ++ cs0 ∧ L2 (FR μ ρ) csA cs1
  H : GR G μ ρ H w

section
variable {P : Program} {G : Gd} {μ : Mu} {ρ : Nat → Int} {H : Heap} {w : World} {fn : FuncId} {df : Bool} {ro : Option Nat} {nt : Nat} {E : Tr AV} {dfs : List ADef} {csA : List AF} {cs0 cs : List Frame} {b : Frame} {a : Act}

theorem At.go (h : At G μ ρ fn df ro nt E dfs csA H cs0 b a cs w) {a' : Act} {k : List AItem} {k' : List Item} (hk : L2 (IR μ) k k') {E' : Tr AV} {w' : World} {H' : Heap} {μ' : Mu} {fr : Frame} (hs : Steps P (lone fr cs w) (lone (b.atR a' k') cs w'))
    (hm : Mu.le μ μ') (hE : ER μ' ρ nt E' a'.tmps) (hd : a'.defers = a.defers) (hH : GR G μ' ρ H' w') (hF : Fr G w w') : SROK P G μ ρ cs0 fr cs w (.next ⟨⟨fn, df, ro, nt, E', k, dfs, .run⟩, csA, H'⟩) := by
  obtain ⟨cs1, e1, e2⟩ := h.cs
  exact ⟨_, _, _, μ', hs, hm, ⟨⟨h.fn, h.kind, h.ro.mono hm, hE, fun _ => hk.mono fun _ _ => IR.mono hm, by show L2 _ _ a'.defers; rw [hd]; exact h.defers.mono fun _ _ => DR.mono hm, .run⟩,
    ⟨cs1, e1, e2.mono fun _ _ => FR.mono hm⟩, hH⟩, hF⟩
/-- A step that only turns what is to be done. -/
theorem At.turn (h : At G μ ρ fn df ro nt E dfs csA H cs0 b a cs w) {k : List AItem} {k' : List Item} (hk : L2 (IR μ) k k') {fr : Frame} (hs : step P (lone fr cs w) = .next (lone (b.atR a k') cs w)) :
    SROK P G μ ρ cs0 fr cs w (.next ⟨⟨fn, df, ro, nt, E, k, dfs, .run⟩, csA, H⟩) :=
  h.go hk (.one hs) (Mu.le_refl _) h.E rfl h.H (Fr.refl _ _)
/-- The frame at hand as a caller. -/
theorem At.asCaller (h : At G μ ρ fn df ro nt E dfs csA H cs0 b a cs w) {k : List AItem} {k' : List Item} (hk : L2 (IR μ) k k') : FR μ ρ ⟨fn, df, ro, nt, E, k, dfs, .run⟩ (b.atR a k') :=
  ⟨h.fn, h.kind, h.ro, h.E, fun _ => hk, h.defers, .run⟩

theorem endRound_ok (h : At G μ ρ fn df ro nt E dfs csA H cs0 b a cs w) (hdf : ro ≠ none → dfs = [] ∨ True) {todo : List AItem} {k' : List Item} (jump : Option Code)
    (hnone : ro = none → (jump = none ∨ jump = some .ret) → step P (lone (b.atR a k') cs w) = .next (lone { b.atR a k' with mode := .returning } cs w))
    (hsome : ∀ l v w' (c : Frame) cs', b.roundOf = some l → b.kind = .normal → cs = c :: cs' → (Instr.endRound l jump).run P w = .ok v w' → step P (lone (b.atR a k') cs w) = .next (lone (c.finish v) cs' w')) :
    SROK P G μ ρ cs0 (b.atR a k') cs w (endRoundA fn df ro nt E todo dfs csA H jump) := by
  unfold endRoundA
  have retting : ro = none → (jump = none ∨ jump = some .ret) → SROK P G μ ρ cs0 (b.atR a k') cs w (.next ⟨⟨fn, df, none, nt, E, todo, dfs, .ret⟩, csA, H⟩) := fun hro hj => by
    obtain ⟨cs1, e1, e2⟩ := h.cs
    have hr := h.ro
    rw [hro] at hr
    exact ⟨_, _, _, μ, .one (hnone hro hj), Mu.le_refl _, ⟨⟨h.fn, h.kind, hr, h.E, fun hc => (by cases hc), h.defers, .ret⟩, ⟨cs1, e1, e2⟩, h.H⟩, Fr.refl _ _⟩
  split
  · split
    · exact retting rfl (.inl rfl)
    · exact retting rfl (.inr rfl)
    · trivial
  · rename_i l
    split
    · trivial
    · split
      · rename_i st pe fn' nt' tm ps as bd d hl
        obtain ⟨cs1, e1, e2⟩ := h.cs
        have hro := h.ro
        generalize hbr : b.roundOf = br at hro
        cases hro with
        | @some _ lb ln hlb =>
        obtain ⟨tmps, Dd, m, q1, q2, q3⟩ := h.H.loopAt hl hlb
        have hend := run_endRound (P := P) jump q3
        split
        · obtain ⟨g1, g2⟩ := put_grown h.H hl hlb (o := .loop .ready none fn' nt' tm ps as bd d) ⟨tmps, Dd, m, q1, q2, rfl⟩
          split
          · cases e2
            have hcs : cs = cs0 := by simpa using e1
            exact ⟨_, _, .bool, g1, g2, hcs, fun c cs' hc => hsome lb _ _ c cs' hbr h.kind (hcs.trans hc) hend⟩
          · rename_i c csA'
            cases e2 with
            | @cons _ c' _ cs2 hc hcs =>
            have hstep := hsome lb _ _ c' (cs2 ++ cs0) hbr h.kind (by rw [e1]; rfl) hend
            split
            · rename_i cA hf
              have hfin := finish_ok hf hc (.bool (μ := μ) (ρ := ρ))
              exact ⟨_, _, _, μ, .one hstep, Mu.le_refl _, ⟨hfin, ⟨cs2, rfl, hcs⟩, g1⟩, g2⟩
            · trivial
        · rename_i j
          obtain ⟨g1, g2⟩ := put_grown h.H hl hlb (o := .loop .done (some j) fn' nt' tm ps as bd d) ⟨tmps, Dd, m, q1, q2, rfl⟩
          split
          · cases e2
            have hcs : cs = cs0 := by simpa using e1
            exact ⟨_, _, .bool, g1, g2, hcs, fun c cs' hc => hsome lb _ _ c cs' hbr h.kind (hcs.trans hc) hend⟩
          · rename_i c csA'
            cases e2 with
            | @cons _ c' _ cs2 hc hcs =>
            have hstep := hsome lb _ _ c' (cs2 ++ cs0) hbr h.kind (by rw [e1]; rfl) hend
            split
            · rename_i cA hf
              have hfin := finish_ok hf hc (.bool (μ := μ) (ρ := ρ))
              exact ⟨_, _, _, μ, .one hstep, Mu.le_refl _, ⟨hfin, ⟨cs2, rfl, hcs⟩, g1⟩, g2⟩
            · trivial
      · trivial

theorem opStep_ok {D : Dec} (hD : D.OK P ρ) (hN : NoNG P) (h : At G μ ρ fn df ro nt E dfs csA H cs0 b a cs w) {all : Array Oper} {o : Oper} {rest : List Oper} {k : List AItem} {k' : List Item} (hk : L2 (IR μ) k k') {i : Nat}
    (hd : all.toList.drop i = o :: rest) (hi : i ≤ all.size) : SROK P G μ ρ cs0 (b.atR a (.inRegion all (List.range' i (all.size - i)) :: k')) cs w (opStep P D fn df ro nt E all o rest k dfs csA H) := by
  obtain ⟨e1, e2, e3, e4⟩ := ops_next hd hi
  have hIR : IR μ (.inOps all (o :: rest)) (.inRegion all (List.range' i (all.size - i))) := .inOps hd hi
  have hIR' : IR μ (.inOps all rest) (.inRegion all (List.range' (i + 1) (all.size - (i + 1)))) := .inOps e4 e2
  rw [e3]
  rw [e3] at hIR
  unfold opStep
  split
  · trivial
  · rename_i hw
    have hw := wanted_ok h.E hw
    split
    · rename_i E' hp
      obtain ⟨p1, p2⟩ := put_ok (a := a) hp h.E (.tup (l' := []) .nil)
      have hs := stepR_op_skip (P := P) (b := b) (a := a) (k := k') (cs := cs) (w := w) (ops := all) (i := i) (rest := List.range' (i + 1) (all.size - (i + 1))) (by simp [e1]; simpa using hw)
      rw [e1] at hs
      exact h.go (.cons hIR' hk) (.one hs) (Mu.le_refl _) p1 p2 h.H (Fr.refl _ _)
    · trivial
  · rename_i hw
    have hw := wanted_ok h.E hw
    have hok := op_ok (P := P) h.H h.E hD hN o
    have hsem : ∀ (hb : opA P D E H o.op ≠ .bad) (hd : ∀ d, opA P D E H o.op ≠ .dfr d), o.semAt b.roundOf a.eval = execOp a.eval o := fun hb hd => Oper.semAt_eq _ _ _ (opA_not_defer rfl hb hd)
    split
    · rename_i v H' ho
      rw [ho] at hok hsem
      have hsem := hsem (by simp) (by simp)
      obtain ⟨nx, v', w', μ', q1, q2, q3, q4, q5, q6⟩ := hok
      split
      · rename_i E' hp
        obtain ⟨p1, p2⟩ := put_ok (a := a) hp (h.E.mono q3) q4
        exact h.go (.cons hIR' hk) (.one (st_val e1 hw (by rw [hsem]; exact q1) q2)) q3 p1 p2 q5 q6
      · trivial
    · rename_i f args ho
      rw [ho] at hok hsem
      have hsem := hsem (by simp) (by simp)
      obtain ⟨args', q1, q2⟩ := hok
      have hst := st_enter (P := P) (b := b) (a := a) (k := k') (cs := cs) (rest := List.range' (i + 1) (all.size - (i + 1))) e1 hw (by rw [hsem]; exact q1)
      split
      · rename_i v hv
        obtain ⟨v', w', r1, r2, r3⟩ := plug_ok hD hv q2 w (b.atR a (.inRegion all (i :: List.range' (i + 1) (all.size - (i + 1))) :: k')) cs
        rw [fin_atR e1] at r3
        obtain ⟨s1, s2⟩ := h.H.all r2
        split
        · rename_i E' hp
          obtain ⟨p1, p2⟩ := put_ok (a := a) hp h.E r1
          exact h.go (.cons hIR' hk) ((Steps.one hst).trans r3) (Mu.le_refl _) p1 p2 s1 s2
        · trivial
      · split
        · rename_i v H1 hv
          obtain ⟨v', w', μ', r0, r1, r2, r3, r4⟩ := hD.hp _ _ _ _ _ hv _ _ w _ h.H q2 (b.atR a (.inRegion all (i :: List.range' (i + 1) (all.size - (i + 1))) :: k')) cs
          rw [fin_atR e1] at r4
          split
          · rename_i E' hp
            obtain ⟨p1, p2⟩ := put_ok (a := a) hp (h.E.mono r0) r1
            exact h.go (.cons hIR' hk) ((Steps.one hst).trans r4) r0 p1 p2 r2 r3
          · trivial
        · split
          · rename_i g hg
            obtain ⟨g1, g2, g3, g4, g5⟩ := enter_ok hg q2
            obtain ⟨cs1, c1, c2⟩ := h.cs
            exact ⟨_, _, _, μ, .one hst, Mu.le_refl _, ⟨g1, ⟨_ :: cs1, by rw [c1]; rfl, .cons (h.asCaller (.cons hIR hk)) c2⟩, h.H⟩, Fr.refl _ _⟩
          · trivial
    · rename_i kk args ho
      rw [ho] at hok hsem
      have hsem := hsem (by simp) (by simp)
      obtain ⟨lb, ln, args', q0, q1, q2⟩ := hok
      split
      · rename_i st pe fn' nt' tm ps as bd d hl
        split
        · rename_i E' hb
          obtain ⟨tmps, Dd, m, r1, r2, r3⟩ := h.H.loopAt hl q0
          obtain ⟨b1, b2⟩ := bind_ok _ _ _ _ _ _ _ r2 q2 hb
          have hy := run_yield (P := P) (args := args'.toArray) r3 (by simp [← b1])
          rw [← q1, ← hsem] at hy
          have hst := st_round (P := P) (b := b) (k := k') (cs := cs) (rest := List.range' (i + 1) (all.size - (i + 1))) e1 hw hy
          obtain ⟨cs1, c1, c2⟩ := h.cs
          refine ⟨_, _, _, μ, .one hst, Mu.le_refl _, ⟨⟨rfl, rfl, .some q0, ?_, fun _ => .cons .code (.cons .beginRound (.cons .code .nil)), .nil, .run⟩, ⟨_ :: cs1, by rw [c1]; rfl, .cons (h.asCaller (.cons hIR hk)) c2⟩, h.H⟩, Fr.refl _ _⟩
          have e : ((ps.zip args'.toArray).foldl (fun tmps (t, a) => tmps.setIfInBounds t a) tmps) = ((ps.toList.zip args').foldl (fun tmps (t, a) => tmps.setIfInBounds t a) tmps) := by
            rw [← Array.foldl_toList, Array.toList_zip]
          show ER μ ρ nt' E' ((ps.zip args'.toArray).foldl (fun tmps (t, a) => tmps.setIfInBounds t a) tmps)
          rw [e]; exact b2
        · trivial
      · trivial
    · rename_i d ho
      rw [ho] at hok
      obtain ⟨d', q1, q2⟩ := hok
      have hro := h.ro
      split
      · trivial
      · split
        · rename_i E' hp
          generalize hbr : b.roundOf = br at hro
          cases hro
          obtain ⟨p1, p2⟩ := put_ok (a := { a with defers := d' :: a.defers }) (v' := undef) hp h.E (.tup (l' := []) .nil)
          have hst := st_defer (P := P) (b := b) (a := a) (k := k') (cs := cs) (rest := List.range' (i + 1) (all.size - (i + 1))) e1 hw (by rw [hbr, Oper.semAt_none]; exact q1)
          obtain ⟨cs1, c1, c2⟩ := h.cs
          exact ⟨_, _, _, μ, .one hst, Mu.le_refl _, ⟨⟨h.fn, h.kind, by show RoR μ none b.roundOf; rw [hbr]; exact .none, p1, fun _ => .cons hIR' hk, by show L2 _ _ (Act.put _ _ _).defers; rw [p2]; exact .cons q2 h.defers, .run⟩, ⟨cs1, c1, c2⟩, h.H⟩, Fr.refl _ _⟩
        · trivial
    · rename_i ho
      rw [ho] at hok
      have hro := h.ro
      split
      · trivial
      · generalize hbr : b.roundOf = br at hro
        cases hro
        split
        · split
          · rename_i E' hp
            obtain ⟨p1, p2⟩ := put_ok (a := a) hp h.E (v' := .nilIface) .nili
            have htr : tryRecover (b.atR a (.inRegion all (i :: List.range' (i + 1) (all.size - (i + 1))) :: k')) cs = none := by
              have hk2 : (b.atR a (.inRegion all (i :: List.range' (i + 1) (all.size - (i + 1))) :: k')).kind = .normal := h.kind
              unfold tryRecover; rw [hk2]
            exact h.go (.cons hIR' hk) (.one (st_recov e1 hw hbr hok (.inr ⟨htr, rfl, rfl⟩))) (Mu.le_refl _) p1 p2 h.H (Fr.refl _ _)
          · trivial
        · have hk2 : (b.atR a (.inRegion all (i :: List.range' (i + 1) (all.size - (i + 1))) :: k')).kind = .deferred := h.kind
          obtain ⟨cs1, c1, c2⟩ := h.cs
          split
          · trivial
          · rename_i cfn cdf cro cnt cE ctodo cdfs cmode cs'
            cases c2 with
            | @cons _ c' _ cs2 hc hcs =>
            have hcm := hc.mode
            split
            · trivial
            · dsimp only at hcm
              split
              · rename_i E' hp
                obtain ⟨p1, p2⟩ := put_ok (a := a) hp h.E (v' := .nilIface) .nili
                have htr : tryRecover (b.atR a (.inRegion all (i :: List.range' (i + 1) (all.size - (i + 1))) :: k')) cs = none := by
                  rw [tryRecover_deferred hk2, c1]
                  have hm' : c'.mode = .returning := by generalize c'.mode = m at hcm; cases hcm; rfl
                  simp [recoverD, hm']
                exact h.go (.cons hIR' hk) (.one (st_recov e1 hw hbr hok (.inr ⟨htr, rfl, rfl⟩))) (Mu.le_refl _) p1 p2 h.H (Fr.refl _ _)
              · trivial
            · dsimp only at hcm
              split
              · rename_i v older
                split
                · rename_i E' hp
                  obtain ⟨v', older', hm', hv', hol⟩ : ∃ v' older', c'.mode = .panicking ({ v := v', recovered := false } :: older') ∧ VR μ ρ v v' ∧ L2 (EntR μ ρ) older older' := by
                    generalize c'.mode = m at hcm
                    cases hcm with
                    | pan hl =>
                    cases hl with
                    | cons he hol =>
                    cases he with
                    | mk hv => exact ⟨_, _, rfl, hv, hol⟩
                  obtain ⟨p1, p2⟩ := put_ok (a := a) hp h.E hv'
                  have htr : tryRecover (b.atR a (.inRegion all (i :: List.range' (i + 1) (all.size - (i + 1))) :: k')) cs = some (v', { c' with mode := .panicking ({ v := v', recovered := true } :: older') } :: (cs2 ++ cs0)) := by
                    rw [tryRecover_deferred hk2, c1]
                    simp [recoverD, hm']
                  have hst := st_recov (P := P) (b := b) (a := a) (k := k') e1 hw hbr hok (.inl htr)
                  refine ⟨_, _, _, μ, .one hst, Mu.le_refl _, ⟨⟨h.fn, h.kind, by show RoR μ none b.roundOf; rw [hbr]; exact .none, p1, fun _ => .cons hIR' hk, by show L2 _ _ (Act.put _ _ _).defers; rw [p2]; exact h.defers, .run⟩, ⟨_ :: cs2, rfl, .cons ?_ hcs⟩, h.H⟩, Fr.refl _ _⟩
                  exact ⟨hc.fn, hc.kind, hc.ro, hc.E, fun hcc => (by cases hcc), hc.defers, .pan (.cons (.mk hv') hol)⟩
                · trivial
              · trivial
    · rename_i v ho
      rw [ho] at hok hsem
      have hsem := hsem (by simp) (by simp)
      obtain ⟨v', q1, q2⟩ := hok
      have hst := st_pan (P := P) (b := b) (a := a) (k := k') (cs := cs) (rest := List.range' (i + 1) (all.size - (i + 1))) e1 hw (by rw [hsem]; exact q1)
      obtain ⟨cs1, c1, c2⟩ := h.cs
      exact ⟨_, _, _, μ, .one hst, Mu.le_refl _, ⟨⟨h.fn, h.kind, h.ro, h.E, fun hcc => (by cases hcc), h.defers, .pan (.cons (.mk q2) .nil)⟩, ⟨cs1, c1, c2⟩, h.H⟩, Fr.refl _ _⟩
    · trivial
end
end Vx
