/-
  A step of the abstract machine is so many steps of the model's.
-/
import Derived.Test.YtmgejgbomglegaaGreatDoorVx12
namespace Vx
open Go
section
variable {P : Program} {G : Gd} {μ μ' : Mu} {ρ : Nat → Int} {H : Heap} {w : World}

theorem get_ofList : ∀ (l : List AV) (i : Nat) (t : Tr AV) (j : Nat), (ofList l i t).get j = if h : i ≤ j ∧ j - i < l.length then some (l[j - i]'h.2) else t.get j
  | [], i, t, j => by simp [ofList]
  | v :: r, i, t, j => by
    simp only [ofList]
    rw [get_ofList r (Nat.succ i)]
    by_cases h1 : i + 1 ≤ j ∧ j - (i + 1) < r.length
    · rw [dif_pos h1, dif_pos ⟨by omega, by simp; omega⟩]
      have : j - i = (j - (i + 1)) + 1 := by omega
      simp [this]
    · rw [dif_neg h1, Tr.get_put]
      by_cases h2 : j = i
      · subst h2; simp
      · rw [if_neg h2, dif_neg (fun h => h1 ⟨by omega, by have := h.2; simp at this; omega⟩)]
theorem enter_ok {f : FuncId} {args : List AV} {args' : List Value} {df : Bool} {g : AF} (h : enterA P f args df = some g) (hv : VRs μ ρ args args') : FR μ ρ g (Frame.enter P f args'.toArray (kindOf df)) ∧ bodied P f = true ∧ g.ro = none ∧ g.df = df ∧ g.fn = f := by
  unfold enterA at h
  split at h
  · rename_i F hF
    split at h
    · rename_i c hc
      split at h
      · rename_i hle
        have hle := Nat.le_of_ble_eq_true hle
        cases h
        have hlen := hv.length
        refine ⟨⟨rfl, rfl, .none, ⟨?_, fun t v hv' => ?_⟩, fun _ => ?_, .nil, .run⟩, by unfold bodied; simp [hF, hc], rfl, rfl, rfl⟩
        · simp [Frame.enter, hF]; omega
        · simp only [get_ofList] at hv'
          split at hv'
          · rename_i hb
            cases hv'
            obtain ⟨v', h1, h2⟩ := hv.get (List.getElem?_eq_getElem hb.2)
            simp only [Nat.sub_zero] at h1 h2 ⊢
            have e : (Frame.enter P f args'.toArray (kindOf df)).tmps.getD t undef = v' := by
              rw [Array.getD_eq_getD_getElem?]
              simp only [Frame.enter]
              rw [Array.getElem?_append_left (by simp; omega)]
              simp [h1]
            rw [e]; exact h2
          · rw [Tr.get_e] at hv'; cases hv'
        · have e : (Frame.enter P f args'.toArray (kindOf df)).todo = [.code c] := by simp [Frame.enter, hF, hc]
          rw [e]; exact .cons .code .nil
      · cases h
    · cases h
  · cases h
theorem bind_ok : ∀ (ps : List Tmp) (vs : List AV) (vs' : List Value) (nt : Nat) (tm E : Tr AV) (tmps : Array Value), ER μ ρ nt tm tmps → VRs μ ρ vs vs' → bindA nt tm ps vs = some E →
    ps.length = vs'.length ∧ ER μ ρ nt E ((ps.zip vs').foldl (fun tmps (t, a) => tmps.setIfInBounds t a) tmps)
  | [], [], _, nt, tm, E, tmps, hE, .nil, h => by simp only [bindA, Option.some.injEq] at h; subst h; exact ⟨rfl, hE⟩
  | p :: ps, v :: vs, _, nt, tm, E, tmps, hE, .cons hv hs, h => by
    rename_i v' vs'
    simp only [bindA] at h
    split at h
    · rename_i hp
      obtain ⟨h1, h2⟩ := bind_ok ps vs vs' nt _ E _ (hE.put hv (Nat.le_of_ble_eq_true hp)) hs h
      exact ⟨by simp [h1], h2⟩
    · cases h
  | [], v :: vs, _, nt, tm, E, tmps, hE, .cons hv hs, h => by simp [bindA] at h
  | p :: ps, [], _, nt, tm, E, tmps, hE, .nil, h => by simp [bindA] at h
theorem put_ok {nt : Nat} {E E' : Tr AV} {dst : Option Tmp} {v : AV} {v' : Value} {a : Act} (h : putA nt E dst v = some E') (hE : ER μ ρ nt E a.tmps) (hv : VR μ ρ v v') : ER μ ρ nt E' (a.put dst v').tmps ∧ (a.put dst v').defers = a.defers := by
  unfold putA at h
  split at h
  · cases h; exact ⟨hE, rfl⟩
  · split at h
    · rename_i hd; cases h; exact ⟨hE.put hv (Nat.le_of_ble_eq_true hd), rfl⟩
    · cases h
/-- The next operation of a region. -/
theorem ops_next {all : Array Oper} {o : Oper} {rest : List Oper} {i : Nat} (h : all.toList.drop i = o :: rest) (hi : i ≤ all.size) :
    all[i]? = some o ∧ i < all.size ∧ List.range' i (all.size - i) = i :: List.range' (i + 1) (all.size - (i + 1)) ∧ all.toList.drop (i + 1) = rest := by
  have hlt : i < all.size := by
    refine Nat.lt_of_le_of_ne hi fun e => ?_
    rw [List.drop_eq_nil_of_le (by simp [e])] at h; cases h
  have h0 : all.toList[i]? = some o := by
    have := congrArg (fun l => l[0]?) h
    simpa using this
  refine ⟨by simpa using h0, hlt, ?_, ?_⟩
  · obtain ⟨n, hn⟩ : ∃ n, all.size - i = n + 1 := ⟨all.size - i - 1, by omega⟩
    rw [hn, List.range'_succ]
    congr 2; omega
  · have := congrArg List.tail h
    simpa using this
theorem finish_ok {c c' : AF} {v : AV} {v' : Value} {fr : Frame} (h : finishA c v = some c') (hc : FR μ ρ c fr) (hv : VR μ ρ v v') : FR μ ρ c' (fr.finish v') := by
  obtain ⟨fn, df, ro, nt, E, todo, dfs, mode⟩ := c
  obtain ⟨h1, h2, h3, h4, h5, h6, h7⟩ := hc
  unfold finishA at h
  dsimp only at h h1 h2 h3 h4 h5 h6 h7
  split at h
  · have h5 := h5 rfl
    have hm : fr.mode = .run := by generalize fr.mode = m at h7; cases h7; rfl
    clear h7
    split at h
    · rename_i all o rest k _
      split at h
      · rename_i E' hp
        cases h
        cases ht : fr.todo with
        | nil => rw [ht] at h5; cases h5
        | cons it k' =>
          rw [ht] at h5
          cases h5 with
          | cons hi hk =>
          cases hi with
          | @inOps _ _ i hd hle =>
          obtain ⟨e1, e2, e3, e4⟩ := ops_next hd hle
          rw [e3] at ht
          have hfr := frame_atR fr hm
          rw [ht] at hfr
          have hfin : fr.finish v' = fr.atR ((Act.mk fr.tmps fr.defers).put o.dst v') (.inRegion all (List.range' (i + 1) (all.size - (i + 1))) :: k') := by
            rw [hfr, fin_atR e1]; rfl
          rw [hfin]
          obtain ⟨p1, p2⟩ := put_ok (a := ⟨fr.tmps, fr.defers⟩) hp h4 hv
          exact ⟨h1, h2, h3, p1, fun _ => .cons (.inOps e4 e2) hk, by show L2 _ _ ((Act.mk fr.tmps fr.defers).put o.dst v').defers; rw [p2]; exact h6, .run⟩
      · cases h
    · rename_i l k
      cases h
      cases ht : fr.todo with
      | nil => rw [ht] at h5; cases h5
      | cons it k' =>
        rw [ht] at h5
        cases h5 with
        | cons hi hk =>
        cases hi with
        | @inRF _ bl _ hl =>
        have hfin : fr.finish v' = { fr with todo := .endRangeFunc bl :: k' } := by unfold Frame.finish; rw [ht]
        rw [hfin]
        exact ⟨h1, h2, h3, h4, fun _ => .cons (.endRF hl) hk, h6, by rw [hm]; exact .run⟩
    · cases h
  · cases h
theorem exitTo_ok {id : Nat} : ∀ {k k2 : List AItem} {k' : List Item}, L2 (IR μ) k k' → exitToA id k = some k2 → ∃ k2', exitTo id k' = some k2' ∧ L2 (IR μ) k2 k2'
  | _, _, _, .nil, h => by simp [exitToA] at h
  | _, _, _, .cons hi hk, h => by
    rename_i it it' k k'
    have other : (∀ j, it ≠ .inBlock j) → (∀ j, it' ≠ .inBlock j) → exitToA id (it :: k) = exitToA id k ∧ exitTo id (it' :: k') = exitTo id k' := fun h1 h2 => by
      constructor
      · cases it <;> first | rfl | exact absurd rfl (h1 _)
      · cases it' <;> first | rfl | exact absurd rfl (h2 _)
    cases hi with
    | inBlock =>
      rename_i j
      simp only [exitToA] at h
      split at h
      · rename_i hj
        cases h
        have := Nat.eq_of_beq_eq_true hj
        exact ⟨k', by simp [exitTo, this], hk⟩
      · rename_i hj
        obtain ⟨k2', q1, q2⟩ := exitTo_ok hk h
        have hne : ¬ j = id := fun e => by subst e; simp at hj
        exact ⟨k2', by simp [exitTo, hne, q1], q2⟩
    | _ =>
      obtain ⟨e1, e2⟩ := other (by simp) (by simp)
      rw [e1] at h
      rw [e2]
      exact exitTo_ok hk h
theorem gotoA_ok {l : Nat} : ∀ {k k2 : List AItem} {k' : List Item}, L2 (IR μ) k k' → gotoA l k = some k2 → ∃ k2', gotoIn l k' = some k2' ∧ L2 (IR μ) k2 k2'
  | _, _, _, .nil, h => by simp [gotoA] at h
  | _, _, _, .cons hi hk, h => by
    rename_i it it' k k'
    cases hi with
    | inScope =>
      rename_i b
      simp only [gotoA] at h
      split at h
      · rename_i r hr
        cases h
        exact ⟨_, by simp only [gotoIn, hr], .cons .code (.cons .inScope hk)⟩
      · rename_i hr
        obtain ⟨k2', q1, q2⟩ := gotoA_ok hk h
        exact ⟨k2', by simp only [gotoIn, hr, q1], q2⟩
    | _ =>
      simp only [gotoA] at h
      simp only [gotoIn]
      exact gotoA_ok hk h
theorem exitTo_none {id : Nat} : ∀ {k : List AItem} {k' : List Item}, L2 (IR μ) k k' → exitToA id k = none → exitTo id k' = none
  | _, _, .nil, h => rfl
  | _, _, .cons hi hk, h => by
    rename_i it it' k k'
    cases hi with
    | inBlock =>
      rename_i j
      simp only [exitToA] at h
      split at h
      · cases h
      · rename_i hj
        have hne : ¬ j = id := fun e => by subst e; simp at hj
        simp [exitTo, hne, exitTo_none hk h]
    | _ =>
      simp only [exitToA] at h
      simp only [exitTo]
      exact exitTo_none hk h
theorem wanted_ok {nt : Nat} {all : Array Oper} {E : Tr AV} {o : Oper} {tmps : Array Value} (hE : ER μ ρ nt E tmps) {b : Bool} (h : wantedA all E o = some b) : Region.wanted o (yielded all tmps) = b := by
  unfold wantedA at h
  split at h
  · rename_i hg; cases h; simp [Region.wanted, hg]
  · rename_i j want hg
    split at h
    · rename_i oj hj
      rw [nth_eq] at hj
      have hj' : all[j]? = some oj := by simpa using hj
      split at h
      · rename_i d hd
        have key : ∀ v, E.get d = some v → ∃ v', VR μ ρ v v' ∧ tmps.getD d undef = v' := fun v hv => ⟨_, hE.2 d v hv, rfl⟩
        have hlook : ∀ v', tmps.getD d undef = v' → (tmps[d]? = some v' ∨ (tmps[d]? = none ∧ v' = undef)) := fun v' hv => by
          rw [Array.getD_eq_getD_getElem?] at hv
          cases ht : tmps[d]? with
          | none => rw [ht] at hv; exact .inr ⟨rfl, hv.symm⟩
          | some u => rw [ht] at hv; exact .inl (by rw [← hv]; rfl)
        split at h
        · rename_i bb hget
          cases h
          obtain ⟨v', hv1, hv2⟩ := key _ hget
          cases hv1
          rcases hlook _ hv2 with h1 | ⟨_, h1⟩
          · simp [Region.wanted, hg, yielded, hj', hd, h1]
            cases bb <;> cases want <;> rfl
          · simp [undef] at h1
        · rename_i l hget
          cases h
          obtain ⟨v', hv1, hv2⟩ := key _ hget
          cases hv1
          rcases hlook _ hv2 with h1 | ⟨h1, _⟩
          · simp [Region.wanted, hg, yielded, hj', hd, h1]
          · simp [Region.wanted, hg, yielded, hj', hd, h1]
        · cases h
      · cases h
    · cases h
theorem opA_not_defer {D : Dec} {E : Tr AV} {op : Op} {r : OpR} (h : opA P D E H op = r) (hb : r ≠ .bad) (hd : ∀ d, r ≠ .dfr d) : ∀ c, op ≠ .defer c := fun c e => by
  subst e
  simp only [opA] at h
  split at h
  · exact hb h.symm
  · split at h
    · split at h
      · exact hd _ h.symm
      · exact hb h.symm
    · exact hb h.symm
theorem L2.append_inv {α β : Type} {R : α → β → Prop} : ∀ {l : List α} {r : List β}, L2 R l r → l.length = r.length
  | _, _, .nil => rfl
  | _, _, .cons _ hs => by simp [hs.append_inv]
theorem put_grown {k b n : Nat} (hG : GR G μ ρ H w) {o0 o : AObj} (hk : H.tr.get k = some o0) (hb : μ k = some (b, n)) {x : Obj} (ho : OR μ ρ n x o) : GR G μ ρ (H.set k o) (w.putObj b x) ∧ Fr G w (w.putObj b x) :=
  hG.turn hk hb (fun b' hne => World.putObj_heap_other hne) (World.putObj_heap_same (hG.dom _ _ _ hb).2) (by simp) ho rfl rfl rfl
/-- A block turns and is given up. -/
theorem GR.drop {w' : World} (h : GR G μ ρ H w) {k b n : Nat} {o0 : AObj} (hk : H.tr.get k = some o0) (hb : μ k = some (b, n)) (hother : ∀ b', b' ≠ b → w'.heap[b']? = w.heap[b']?)
    (hsz : w'.heap.size = w.heap.size) (hos : w'.os = w.os) (ht : w'.tape = w.tape) (hout : w'.output = w.output) : GR G μ ρ (H.kill k) w' ∧ Fr G w w' := by
  obtain ⟨b1, n1, x1, e1, hg, _, _⟩ := h.obj k o0 hk
  rw [hb] at e1; cases e1
  have g : ∀ j oj, (H.kill k).tr.get j = some oj → j ≠ k ∧ H.tr.get j = some oj := fun j oj hj => by
    simp only [Heap.kill, Tr.get_put] at hj
    by_cases e : j = k
    · rw [if_pos e] at hj; cases hj
    · rw [if_neg e] at hj; exact ⟨e, hj⟩
  refine ⟨⟨fun k' o hk' => ?_, fun k1 k2 o1 o2 b m1 m2 h1 h2 => h.inj _ _ _ _ _ _ _ (g _ _ h1).2 (g _ _ h2).2, fun k' b' n' hk' => by rw [hsz]; exact h.dom _ _ _ hk', fun b' hb' => by rw [hsz]; exact h.glt b' hb', h.rid⟩,
    ⟨hos, ht, hout, by omega, fun b' hb' _ => hother b' (fun e => hg (e ▸ hb'))⟩⟩
  obtain ⟨e, hj⟩ := g _ _ hk'
  obtain ⟨b2, n2, x2, h1, h2, h3, h4⟩ := h.obj k' o hj
  refine ⟨b2, n2, x2, h1, h2, (hother b2 ?_).trans h3, h4⟩
  intro e2; subst e2
  exact e (h.inj k' k _ _ _ _ _ hj hk h1 hb)
/-- The object of a known number. -/
theorem GR.loopAt (hG : GR G μ ρ H w) {k : Nat} {st : LoopState} {pe : Option Code} {fn : FuncId} {nt : Nat} {tm : Tr AV} {ps : Array Tmp} {as bd : Code} {d b n : Nat} (hk : H.tr.get k = some (.loop st pe fn nt tm ps as bd d)) (hb : μ k = some (b, n)) :
    ∃ (tmps : Array Value) (D m : Nat), μ d = some (D, m) ∧ ER μ ρ nt tm tmps ∧ w.heap[b]? = some (.loop { state := st, pending := pe, fn := fn, tmps := tmps, params := ps, assign := as, body := bd, defers := D }) := by
  obtain ⟨b1, n1, x, e1, _, e3, tmps, D, m, h1, h2, rfl⟩ := hG.obj k _ hk
  rw [hb] at e1; cases e1
  exact ⟨tmps, D, m, h1, h2, e3⟩
end
end Vx
