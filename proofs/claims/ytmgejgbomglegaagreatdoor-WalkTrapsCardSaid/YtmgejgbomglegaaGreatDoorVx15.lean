/-
  A step of the abstract machine is so many steps of the model's: the rest; runs; what a run that ends says of a call.
-/
import Derived.Test.YtmgejgbomglegaaGreatDoorVx14
namespace Vx
open Go
section
variable {P : Program} {G : Gd} {μ : Mu} {ρ : Nat → Int} {H : Heap} {w : World} {fn : FuncId} {df : Bool} {ro : Option Nat} {nt : Nat} {E : Tr AV} {dfs : List ADef} {csA : List AF} {cs0 cs : List Frame} {b : Frame} {a : Act}

theorem stepR_scopeX {x : Code} {k : List Item} :
    step P (lone (b.atR a (.code (.scope x) :: k)) cs w) = .next (lone (b.atR a (.code x :: .inScope x :: k)) cs w) :=
  step_lone_go (by simp [stepG, stepG.exec, Frame.atR])
theorem stepR_inScopeX {x : Code} {k : List Item} :
    step P (lone (b.atR a (.inScope x :: k)) cs w) = .next (lone (b.atR a k) cs w) :=
  step_lone_go (by simp [stepG, stepG.exec, Frame.atR])
theorem codeStep_ok {rg : Rg} (hrg : RgOK P ρ rg) (hN : NoNG P) (h : At G μ ρ fn df ro nt E dfs csA H cs0 b a cs w) {c : Code} {k : List AItem} {k' : List Item} (hk : L2 (IR μ) k k') :
    SROK P G μ ρ cs0 (b.atR a (.code c :: k')) cs w (codeStep P rg fn df ro nt E c k dfs csA H) := by
  unfold codeStep
  split
  · exact h.turn hk stepR_skip
  · rename_i id ops draw
    split
    · refine h.turn (k' := .inRegion ops (List.range' 0 (ops.size - 0)) :: k') (.cons (.inOps rfl (Nat.zero_le _)) hk) ?_
      rw [stepR_region, List.range_eq_range']; simp
    · have hr := hrg G μ H w nt E b a k' cs id ops h.E h.H
      split
      · rename_i E' H' he
        rw [he] at hr
        obtain ⟨a', w', μ', q1, q2, q3, q4, q5, q6⟩ := hr
        exact h.go hk q1 q3 q4 q2 q5 q6
      · rename_i E' ch H' he
        rw [he] at hr
        obtain ⟨a', w', μ', todo', ch', q1, q2, q3, q4, q5, q6, q7⟩ := hr
        obtain ⟨cs1, c1, c2⟩ := h.cs
        exact ⟨_, _, _, μ', q1, q3, ⟨⟨h.fn, h.kind, h.ro.mono q3, q4, fun hcc => (by cases hcc), by show L2 _ _ a'.defers; rw [q2]; exact h.defers.mono fun _ _ => DR.mono q3, .pan q5⟩, ⟨cs1, c1, c2.mono fun _ _ => FR.mono q3⟩, q6⟩, q7⟩
      · trivial
  · exact h.turn (.cons .code (.cons .code hk)) stepR_seq
  · rename_i x y z
    split
    · rename_i t ht
      have hv := ev_ok h.E ht
      generalize hx : a.eval x = xv at hv
      cases hv
      split
      · exact h.turn (.cons .code hk) (stepR_cond hx)
      · exact h.turn (.cons .code hk) (stepR_cond hx)
    · trivial
  · exact h.turn (.cons .code (.cons .inBlock hk)) stepR_block
  · exact h.turn (.cons .code (.cons .inLoop hk)) stepR_loop
  · rename_i x ps as bd
    have hro := h.ro
    split
    · trivial
    · generalize hbr : b.roundOf = br at hro
      cases hro
      split
      · rename_i g first cap hx
        have hv := ev_ok h.E hx
        generalize hxv : a.eval x = xv at hv
        cases hv with
        | @fn _ _ _ first' cap' v1 v2 =>
        split
        · rename_i hbod
          split
          · rename_i nf hnf
            -- the two new blocks
            obtain ⟨g1, g2, g3⟩ := h.H.alloc (o := .dfr) (x := .deferred (some [])) (n := 0) rfl
            obtain ⟨w1, hw1⟩ : ∃ w1, w1 = w.alloc (.deferred (some [])) := ⟨_, rfl⟩
            obtain ⟨μ1, hμ1⟩ : ∃ μ1, μ1 = μ.upd H.next (w.heap.size, 0) := ⟨_, rfl⟩
            rw [← hw1, ← hμ1] at g1
            rw [← hμ1] at g2
            rw [← hw1] at g3
            have hμd : μ1 H.next = some (w.heap.size, 0) := by rw [hμ1]; exact Mu.upd_self _ _ _
            have hsz1 : w1.heap.size = w.heap.size + 1 := by rw [hw1]; simp
            obtain ⟨k1, k2, k3⟩ := g1.alloc (o := .loop .ready none fn nt E ps as bd H.next) (x := .loop { state := .ready, pending := none, fn := fn, tmps := a.tmps, params := ps, assign := as, body := bd, defers := w.heap.size }) (n := 0)
              ⟨a.tmps, w.heap.size, 0, hμd, h.E.mono g2, rfl⟩
            obtain ⟨w2, hw2⟩ : ∃ w2, w2 = w1.alloc (.loop { state := .ready, pending := none, fn := fn, tmps := a.tmps, params := ps, assign := as, body := bd, defers := w.heap.size }) := ⟨_, rfl⟩
            obtain ⟨μ2, hμ2⟩ : ∃ μ2, μ2 = μ1.upd (H.add .dfr).next (w1.heap.size, 0) := ⟨_, rfl⟩
            rw [← hw2, ← hμ2] at k1
            rw [← hμ2] at k2
            rw [← hw2] at k3
            have hle := Mu.le_trans g2 k2
            have hnext : (H.add .dfr).next = Nat.succ H.next := rfl
            have hμl : μ2 (Nat.succ H.next) = some (w.heap.size + 1, 0) := by rw [hμ2, ← hnext, ← hsz1]; exact Mu.upd_self _ _ _
            have he : (Instr.enterLoop b.fn a.tmps ps as bd b.roundOf).run P w = .ok (w.heap.size + 1, [{ target := .collected w.heap.size, args := #[] }]) w2 := by
              rw [hbr, h.fn, run_enterLoop_outer, hw2, hw1]
            have hargs : VRs μ2 ρ (first ++ [.yld (Nat.succ H.next)] ++ cap) (first' ++ [Value.func (.yield (w.heap.size + 1)) #[] #[]] ++ cap') := ((v1.mono hle).append (.cons (.yld hμl) .nil)).append (v2.mono hle)
            have hres : (resolve a.eval (rangeCall x (w.heap.size + 1)) 0).run P w2 = Result.ok { target := .fn (.func g) cap'.toArray, args := first'.toArray ++ #[Value.func (.yield (w.heap.size + 1)) #[] #[]] } w2 := by
              simp only [resolve, hxv]
              simp [Deferred.ofValue, Act.eval]
            have hinv : (invoke (.fn (.func g) cap'.toArray) (first'.toArray ++ #[Value.func (.yield (w.heap.size + 1)) #[] #[]])).run P w2 = .ok (.enter g (first' ++ [Value.func (.yield (w.heap.size + 1)) #[] #[]] ++ cap').toArray) w2 := by
              simp only [invoke]
              rw [callFunc_ok hN hbod]
              simp
            have hst := stepR_rangeFunc (P := P) (b := b) (a := a) (k := k') (cs := cs) (w := w) he hres hinv
            obtain ⟨e1, e2, e3, e4, e5⟩ := enter_ok hnf hargs
            obtain ⟨cs1, c1, c2⟩ := h.cs
            refine ⟨_, _, _, μ2, .one hst, hle, ⟨e1, ⟨_ :: cs1, by rw [c1]; rfl, .cons ?_ (c2.mono fun _ _ => FR.mono hle)⟩, k1⟩, g3.trans k3⟩
            exact ⟨h.fn, h.kind, by show RoR μ2 none b.roundOf; rw [hbr]; exact .none, h.E.mono hle, fun _ => .cons (.inRF hμl) (hk.mono fun _ _ => IR.mono hle), .cons (.coll (k2 _ _ hμd)) (h.defers.mono fun _ _ => DR.mono hle), .run⟩
          · trivial
        · trivial
      · trivial
  · rename_i id
    split
    · rename_i k2 hx
      obtain ⟨k2', q1, q2⟩ := exitTo_ok hk hx
      exact h.turn q2 (stepR_exit q1)
    · rename_i hx
      have hxn := exitTo_none hk hx
      split
      · exact endRound_ok h (fun _ => .inr trivial) _ (fun hro => by cases hro) (fun l v w' c cs' hb hkd hcs hr => by rw [hcs]; exact stepR_round_exit hb hkd hxn hr)
      · trivial
  · exact h.turn hk stepR_label
  · exact h.turn (.cons .code (.cons .inScope hk)) stepR_scopeX
  · split
    · rename_i k2 hx
      obtain ⟨k2', q1, q2⟩ := gotoA_ok hk hx
      exact h.turn q2 (stepR_goto q1)
    · trivial
  · refine endRound_ok h (fun _ => .inr trivial) _ (fun hro _ => ?_) (fun l v w' c cs' hb hkd hcs hr => by rw [hcs]; exact stepR_round_ret hb hkd hr)
    have hr := h.ro
    rw [hro] at hr
    generalize hbr : b.roundOf = br at hr
    cases hr
    exact stepR_ret hbr
  · trivial

/-- What a result variable holds. -/
def resOf (tmps : Array Value) (r : ResultVar) : Sem Value :=
  match r with
  | .tmp t => pure (tmps.getD t undef)
  | .cell a t => do loadVar t (← asAddr (tmps.getD a undef))
theorem resA_ok (hG : GR G μ ρ H w) {tmps : Array Value} (hE : ER μ ρ nt E tmps) : ∀ (rs : List ResultVar) (l : List AV), resA P E H rs = some l →
    ∃ l' : List Value, VRs μ ρ l l' ∧ (rs.mapM (resOf tmps)).run P w = .ok l' w
  | [], l, h => by simp only [resA, Option.some.injEq] at h; subst h; exact ⟨[], .nil, by simp⟩
  | r :: rs, l, h => by
    simp only [resA] at h
    split at h
    · rename_i t
      split at h
      · rename_i v hv
        split at h
        · rename_i l2 hl2
          cases h
          obtain ⟨l', q1, q2⟩ := resA_ok hG hE rs l2 hl2
          exact ⟨_ :: l', .cons (hE.2 t v hv) q1, by simp only [List.mapM_cons, resOf, Sem.run_bind, Sem.run_pure, Result.andThen_ok, q2]⟩
        · cases h
      · cases h
    · rename_i t ty
      split at h
      · rename_i x hx
        split at h
        · rename_i v hv
          split at h
          · rename_i l2 hl2
            cases h
            obtain ⟨l', q1, q2⟩ := resA_ok hG hE rs l2 hl2
            have hxv := hE.2 t x hx
            obtain ⟨v', r1, r2⟩ := loadA_run (P := P) hG hxv hv
            obtain ⟨ad, had⟩ := loadA_ptr hxv hv
            have hrun : (resOf tmps (.cell t ty)).run P w = .ok v' w := by
              rw [had] at r1
              simp only [resOf, had, asAddr, Sem.run_bind, Sem.run_pure, Result.andThen_ok]
              simpa [Instr.loadAt, Instr.sureAddr] using r1
            exact ⟨v' :: l', .cons r2 q1, by simp only [List.mapM_cons, Sem.run_bind, Sem.run_pure, Result.andThen_ok, hrun, q2]⟩
          · cases h
        · cases h
      · cases h
theorem result_ok (hG : GR G μ ρ H w) {tmps : Array Value} (hE : ER μ ρ nt E tmps) {v : AV} (h : resultA P fn E H = some v) : ∃ F v', P.funcs[fn]? = some F ∧ (results F tmps).run P w = .ok v' w ∧ VR μ ρ v v' := by
  unfold resultA at h
  split at h
  · rename_i F hF
    split at h
    · rename_i l hl
      obtain ⟨l', q1, q2⟩ := resA_ok hG hE _ _ hl
      have hm : (F.results.mapM (resOf tmps)).run P w = .ok l'.toArray w := by
        rw [Array.mapM_eq_mapM_toList]
        simp [q2]
      have hres : ∀ v', (if h : l'.toArray.size = 1 then l'.toArray[0] else .tuple l'.toArray) = v' → (results F tmps).run P w = .ok v' w := fun v' hv' => by
        have e : results F tmps = (do let vs ← F.results.mapM (resOf tmps); pure (if h : vs.size = 1 then vs[0] else .tuple vs)) := rfl
        rw [e, Sem.run_bind, hm]
        simp only [Result.andThen_ok, Sem.run_pure, hv']
      split at h
      · rename_i v0
        cases h
        cases q1 with
        | cons h1 h2 =>
        cases h2
        exact ⟨F, _, hF, hres _ (by simp), h1⟩
      · rename_i l0 hne
        cases h
        refine ⟨F, _, hF, hres (.tuple l'.toArray) ?_, .tup q1⟩
        rw [dif_neg]
        intro hs
        have hlen := q1.length
        simp only [List.size_toArray] at hs
        match l, l', hlen, hs, hne with
        | [x], _, _, _, hne => exact hne x rfl
        | [], [], _, hs, _ => simp at hs
        | _ :: _ :: _, _, hlen, hs, _ => simp at hlen; omega
    · cases h
  · cases h

theorem settle_ok {m : AMode} {m' : FrameMode} (h : MoR μ ρ m m') (hr : m ≠ .run) : MoR μ ρ (settleA m) (settle m') ∧ settleA m ≠ .run := by
  cases h with
  | run => exact absurd rfl hr
  | ret => exact ⟨.ret, by simp [settleA]⟩
  | pan hl =>
    cases hl with
    | nil => exact ⟨.pan .nil, by simp [settleA]⟩
    | cons he hs =>
      cases he with
      | @mk v v' r hv =>
      cases r with
      | false => exact ⟨.pan (.cons (.mk hv) hs), by simp [settleA]⟩
      | true =>
        rename_i l1 l2
        have hd : ∀ (l : List AEnt) (r : List PanicEntry), L2 (EntR μ ρ) l r → r.dropWhile (!·.goexit) = [] := by
          intro l r h
          induction h with
          | nil => rfl
          | cons he _ ih => cases he; simp [List.dropWhile, ih]
        refine ⟨?_, by simp [settleA]⟩
        simp only [settleA, settle, hd _ _ hs]
        exact .ret
theorem raised_ok {m : AMode} {m' : FrameMode} (h : MoR μ ρ m m') {c : List AEnt} {c' : List PanicEntry} (hc : L2 (EntR μ ρ) c c') : MoR μ ρ (raisedA m c) (raised m' c') ∧ raisedA m c ≠ .run := by
  have app : ∀ {l : List AEnt} {r : List PanicEntry} {l2 : List AEnt} {r2 : List PanicEntry}, L2 (EntR μ ρ) l r → L2 (EntR μ ρ) l2 r2 → L2 (EntR μ ρ) (l ++ l2) (r ++ r2) := by
    intro l r l2 r2 h1 h2
    induction h1 with
    | nil => exact h2
    | cons he _ ih => exact .cons he ih
  cases h with
  | run => exact ⟨.pan hc, by simp [raisedA]⟩
  | ret => exact ⟨.pan hc, by simp [raisedA]⟩
  | pan hl => exact ⟨.pan (app hc hl), by simp [raisedA]⟩

theorem outStep_ok (hN : NoNG P) {todo : List AItem} {mode : AMode} (hmr : mode ≠ .run) {fr : Frame} (hfr : FR μ ρ ⟨fn, df, ro, nt, E, todo, dfs, mode⟩ fr) (hcs : ∃ cs1, cs = cs1 ++ cs0 ∧ L2 (FR μ ρ) csA cs1) (hG : GR G μ ρ H w) :
    SROK P G μ ρ cs0 fr cs w (outStep P fn df ro nt E todo dfs mode csA H) := by
  obtain ⟨cs1, c1, c2⟩ := hcs
  have hmode : fr.mode ≠ .run := by
    have := hfr.mode
    dsimp only at this
    generalize fr.mode = m at this
    cases this with
    | run => exact absurd rfl hmr
    | ret => simp
    | pan _ => simp
  have hdef := hfr.defers
  dsimp only at hdef
  unfold outStep
  split
  · rename_i d ds
    cases hfd : fr.defers with
    | nil => rw [hfd] at hdef; cases hdef
    | cons d' ds' =>
    rw [hfd] at hdef
    cases hdef with
    | cons hd hds =>
    split
    · rename_i k
      cases hd with
      | @coll _ bk n hk =>
      split
      · rename_i hdfr
        obtain ⟨b1, n1, x, e1, _, e3, e4⟩ := hG.obj _ _ hdfr
        rw [hk] at e1; cases e1
        have e4 : x = .deferred (some []) := e4
        subst e4
        have htk := run_takeDeferred (P := P) e3
        have hst := step_collected (cs := cs) hmode hfd rfl htk
        obtain ⟨g1, g2⟩ := hG.drop (w' := w.putObj bk (.deferred none)) hdfr hk (fun b' hne => World.putObj_heap_other hne) (by simp) rfl rfl rfl
        exact ⟨_, _, _, μ, .one hst, Mu.le_refl _, ⟨⟨hfr.fn, hfr.kind, hfr.ro, hfr.E, hfr.todo, hds, hfr.mode⟩, ⟨cs1, c1, c2⟩, g1⟩, g2⟩
      · trivial
    · rename_i f args cap
      cases hd with
      | @fn _ _ _ args' cap' v1 v2 =>
      split
      · rename_i hbod
        split
        · rename_i g hg
          obtain ⟨e1, e2, e3, e4, e5⟩ := enter_ok hg (v1.append v2)
          have hinv : (invoke (.fn (.func f) cap'.toArray) args'.toArray).run P w = .ok (.enter f (args' ++ cap').toArray) w := by
            simp only [invoke]
            rw [callFunc_ok hN hbod]
            simp
          have hst := step_defer (cs := cs) hmode hfd rfl hinv
          exact ⟨_, _, _, μ, .one hst, Mu.le_refl _, ⟨e1, ⟨{ fr with defers := ds' } :: cs1, by rw [c1]; rfl, .cons ⟨hfr.fn, hfr.kind, hfr.ro, hfr.E, hfr.todo, hds, hfr.mode⟩ c2⟩, hG⟩, Fr.refl _ _⟩
        · trivial
      · trivial
  · have hfd : fr.defers = [] := by generalize fr.defers = l at hdef; cases hdef; rfl
    have hfn := hfr.fn
    have hkd := hfr.kind
    dsimp only at hfn hkd
    split
    · trivial
    · have hm : fr.mode = .returning := by have := hfr.mode; dsimp only at this; generalize fr.mode = m at this; cases this; rfl
      split
      · trivial
      · rename_i v hv
        obtain ⟨F, v', r1, r2, r3⟩ := result_ok (P := P) hG hfr.E hv
        rw [← hfn] at r1
        split
        · cases c2
          split
          · exact ⟨v', hfn, ⟨hm, hfd, hkd, F, r1, r2⟩, r3, hG, by simpa using c1⟩
          · trivial
        · rename_i c csA'
          cases c2 with
          | @cons _ c' _ cs2 hc hcs =>
          split
          · split
            · rename_i cA hf
              have hfin := finish_ok hf hc r3
              have hst := step_leave_returned (c := c') (cs := cs2 ++ cs0) (fr := fr) (w := w) (P := P) (v := v') ⟨hm, hfd, hkd, F, r1, r2⟩
              exact ⟨_, _, _, μ, .one (by rw [c1]; exact hst), Mu.le_refl _, ⟨hfin, ⟨cs2, rfl, hcs⟩, hG⟩, Fr.refl _ _⟩
            · trivial
          · obtain ⟨cfn, cdf, cro, cnt, cE, ctodo, cdfs, cmode⟩ := c
            dsimp only
            have hcm := hc.mode
            dsimp only at hcm
            split
            · trivial
            · rename_i hne
              have hst := step_going_returned (c := c') (cs := cs2 ++ cs0) (fr := fr) (w := w) (P := P) (v := v') hkd ⟨hm, hfd, F, r1, r2⟩
              obtain ⟨s1, s2⟩ := settle_ok hcm (fun e => hne e)
              exact ⟨{ c' with mode := settle c'.mode }, _, _, μ, .one (by rw [c1]; exact hst), Mu.le_refl _, ⟨⟨hc.fn, hc.kind, hc.ro, hc.E, fun e => absurd e s2, hc.defers, s1⟩, ⟨cs2, rfl, hcs⟩, hG⟩, Fr.refl _ _⟩
    · rename_i ch
      obtain ⟨ch', hm, hch⟩ : ∃ ch', fr.mode = .panicking ch' ∧ L2 (EntR μ ρ) ch ch' := by
        have := hfr.mode; dsimp only at this; generalize fr.mode = m at this
        cases this with
        | pan h => exact ⟨_, rfl, h⟩
      split
      · trivial
      · rename_i F hF
        rw [← hfn] at hF
        split
        · cases c2
          exact ⟨ch', hfn, ⟨hm, hfd, F, hF⟩, hch, hG, by simpa using c1⟩
        · rename_i cfn cdf cro cnt cE ctodo cdfs cmode csA'
          cases c2 with
          | @cons _ c' _ cs2 hc hcs =>
          have hcm := hc.mode
          dsimp only at hcm
          have hst := step_leave_panicked (c := c') (cs := cs2 ++ cs0) (fr := fr) (w := w) (P := P) (chain := ch') ⟨hm, hfd, F, hF⟩
          rw [Frame.raise_mode] at hst
          obtain ⟨s1, s2⟩ := raised_ok hcm hch
          exact ⟨{ c' with mode := raised c'.mode ch' }, _, _, μ, .one (by rw [c1]; exact hst), Mu.le_refl _, ⟨⟨hc.fn, hc.kind, hc.ro, hc.E, fun e => absurd e s2, hc.defers, s1⟩, ⟨cs2, rfl, hcs⟩, hG⟩, Fr.refl _ _⟩

theorem astep_ok {D : Dec} (hD : D.OK P ρ) {rg : Rg} (hrg : RgOK P ρ rg) (hN : NoNG P) {m : AM} {fr : Frame} (hm : MR G μ ρ m cs0 fr cs w) : SROK P G μ ρ cs0 fr cs w (astep P D rg m) := by
  obtain ⟨⟨fn, df, ro, nt, E, todo, dfs, mode⟩, csA, H⟩ := m
  obtain ⟨hfr, hcs, hG⟩ := hm
  dsimp only at hfr hcs hG
  unfold astep
  dsimp only
  split
  · have hmode : fr.mode = .run := by have := hfr.mode; dsimp only at this; generalize fr.mode = m at this; cases this; rfl
    have htodo := hfr.todo rfl
    dsimp only at htodo
    have hat : At G μ ρ fn df ro nt E dfs csA H cs0 fr ⟨fr.tmps, fr.defers⟩ cs w := ⟨hfr.fn, hfr.kind, hfr.ro, hfr.E, hfr.defers, hcs, hG⟩
    have hfe := frame_atR fr hmode
    generalize hft : fr.todo = ft at htodo hfe
    rw [hfe]
    split
    · cases htodo
      refine endRound_ok hat (fun _ => .inr trivial) _ (fun hro _ => ?_) (fun l v w' c cs' hb hkd hcs hr => by rw [hcs]; exact stepR_round_end hb hkd hr)
      have hr := hfr.ro
      dsimp only at hr
      rw [hro] at hr
      generalize hbr : fr.roundOf = br at hr
      cases hr
      exact stepR_end hbr
    · rename_i it k
      cases htodo with
      | @cons _ it' _ k' hit hk =>
      split
      · cases hit
        exact codeStep_ok hrg hN hat hk
      · cases hit
        exact hat.turn hk stepR_inBlock
      · cases hit
        exact hat.turn hk stepR_inScopeX
      · cases hit
        exact hat.turn (.cons .code (.cons .inLoop hk)) stepR_inLoop
      · rename_i all rest
        cases hit with
        | @inOps _ _ i hd hi =>
        split
        · refine hat.turn hk ?_
          have : all.size - i = 0 := by
            rw [List.drop_eq_nil_iff] at hd
            simpa using Nat.sub_eq_zero_of_le (by simpa using hd)
          rw [this]
          exact stepR_region_end
        · rename_i o rest'
          exact opStep_ok hD hN hat hk hd hi
      · trivial
      · rename_i l
        cases hit with
        | @endRF _ bl n hl =>
        split
        · rename_i st pe fn' nt' tm ps as bd d hg
          obtain ⟨tmps, Dd, m, q1, q2, q3⟩ := hG.loopAt hg hl
          split
          · trivial
          · rename_i hst
            have hend := run_endLoop (P := P) q3 (by intro e; exact hst e)
            have hs := stepR_endRangeFunc (b := fr) (a := ⟨fr.tmps, fr.defers⟩) (k := k') (cs := cs) hend
            split
            · obtain ⟨g1, g2⟩ := put_grown hG hg hl (o := .loop .exhausted none fn' nt' tm ps as bd d) ⟨tmps, Dd, m, q1, q2, rfl⟩
              exact hat.go hk (.one hs) (Mu.le_refl _) hfr.E rfl g1 g2
            · rename_i j
              obtain ⟨g1, g2⟩ := put_grown hG hg hl (o := .loop .exhausted (some j) fn' nt' tm ps as bd d) ⟨tmps, Dd, m, q1, q2, rfl⟩
              exact hat.go (.cons .code hk) (.one hs) (Mu.le_refl _) hfr.E rfl g1 g2
        · trivial
      · cases hit
        have hro := hfr.ro
        dsimp only at hro
        split
        · trivial
        · rename_i l
          generalize hbr : fr.roundOf = br at hro
          cases hro with
          | @some _ bl n hl =>
          split
          · rename_i st pe fn' nt' tm ps as bd d hg
            obtain ⟨tmps, Dd, m, q1, q2, q3⟩ := hG.loopAt hg hl
            split
            · have hbeg := run_beginRound (P := P) q3 rfl
              have hs := stepR_beginRound (b := fr) (a := ⟨fr.tmps, fr.defers⟩) (k := k') (cs := cs) hbr hbeg
              obtain ⟨g1, g2⟩ := put_grown hG hg hl (o := .loop .busy pe fn' nt' tm ps as bd d) ⟨tmps, Dd, m, q1, q2, rfl⟩
              exact hat.go hk (.one hs) (Mu.le_refl _) hfr.E rfl g1 g2
            · trivial
          · trivial
  · rename_i hne
    exact outStep_ok hN (fun e => hne e) hfr hcs hG
end
end Vx
