/-
  'drawA' is right; 'run' is right; what a run says of a call.
-/
import Derived.Test.YtmgejgbomglegaaGreatDoorVx23
namespace Vx
open Go
section
variable {P : Program} {D : Dec} {rec : Rec} {all : Array Oper} {mt : Tr Nat} {base nt : Nat} {T : Nat → TS} {K : Nat → Kd} {m : Nat} {ρ : Nat → Int}
variable (h : Txt P D rec all mt base nt T K m) {G : Gd} {μ0 : Mu} {w0 : World} {b : Frame} {k : List Item} {cs : List Frame}
/-- Where a region that has drawn its order comes to. -/
def Goal (P : Program) (nt : Nat) (ρ : Nat → Int) (G : Gd) (μ0 : Mu) (w0 : World) (b : Frame) (k : List Item) (cs : List Frame) (fr : Frame) (w : World) (dfs : List Deferred) : DrawR → Prop
  | .ok E' H' => ∃ a' w' μ', Steps P (lone fr cs w) (lone (b.atR a' k) cs w') ∧ a'.defers = dfs ∧ Mu.le μ0 μ' ∧ ER μ' ρ nt E' a'.tmps ∧ GR G μ' ρ H' w' ∧ Fr G w0 w'
  | .pan E' ch H' => ∃ (a' : Act) (w' : World) (μ' : Mu) (todo' : List Item) (ch' : List PanicEntry), Steps P (lone fr cs w) (lone { b.atR a' todo' with mode := .panicking ch' } cs w') ∧
      a'.defers = dfs ∧ Mu.le μ0 μ' ∧ ER μ' ρ nt E' a'.tmps ∧ L2 (EntR μ' ρ) ch ch' ∧ GR G μ' ρ H' w' ∧ Fr G w0 w'
  | .bad => True
theorem Goal.pre {fr fr1 : Frame} {w w1 : World} {dfs : List Deferred} (hs : Steps P (lone fr cs w) (lone fr1 cs w1)) : ∀ {r : DrawR}, Goal P nt ρ G μ0 w0 b k cs fr1 w1 dfs r → Goal P nt ρ G μ0 w0 b k cs fr w dfs r
  | .ok _ _, ⟨a', w', μ', q1, q⟩ => ⟨a', w', μ', hs.trans q1, q⟩
  | .pan _ _ _, ⟨a', w', μ', t, c, q1, q⟩ => ⟨a', w', μ', t, c, hs.trans q1, q⟩
  | .bad, _ => trivial
include h
theorem any_order (hm : m = all.size) (hrec : RecOK P ρ rec) (hD : D.OK P ρ) (hN : NoNG P) (hgi : ∀ k, G.ids k → k < base) {r : DrawR} (q : Nat)
    (hr : ((∀ j, j < m → K j ≠ .gh) ∧ q = m ∧ r = .ok (T m).E (T m).H) ∨ (∃ o c H', all[q]? = some o ∧ TPan P D rec all mt q o (T q) c H' ∧ r = .pan (clearA all.toList (T 0).E) c H' ∧ (∀ j, j < m → K j = .gh → j = q ∨ bitA (og (mt.get j) 0) q = true) ∧ ∀ j, q < j → j < m → K j ≠ .eff)) :
    ∀ {L l : List Nat}, Lin all L l → q ∉ L → ∀ {c : Nat} {a : Act} {w : World} {μ : Mu}, Inv T K all m base nt ρ G μ0 w0 L c a w μ → Clr T K base m c → Goal P nt ρ G μ0 w0 b k cs (b.atR a (.inRegion all l :: k)) w a.defers r := by
  intro L l hlin
  induction hlin with
  | @done L hall =>
    intro hqL c a w μ hI hclr
    rcases hr with ⟨_, _, rfl⟩ | ⟨o, ch, H', ho, hp, rfl, hgh, _⟩
    · obtain ⟨EL, e1, e2⟩ := hI.E
      obtain ⟨Hc, hO, hG⟩ := hI.H
      refine ⟨a, w, μ, .one stepR_region_end, rfl, hI.mu, ⟨e2.1, fun t v hv => e2.2 t v ?_⟩, ?_, hI.fr⟩
      · by_cases ex : ∃ (k : Nat) (o' : Oper), all[k]? = some o' ∧ o'.dst = some t
        · obtain ⟨k', o', hk, hd⟩ := ex
          have hlt : k' < all.size := by
            rcases Nat.lt_or_ge k' all.size with h | h
            · exact h
            · rw [Array.getElem?_eq_none h] at hk; cases hk
          rw [(e1 t).1 k' o' (hall k' hlt) hk hd]; exact hv
        · rw [(e1 t).2 fun k o' _ h1 h2 => ex ⟨k, o', h1, h2⟩, ← h.env t (Nat.zero_le _) (Nat.le_refl _) fun k o' _ _ h1 h2 => ex ⟨k, o', h1, h2⟩]
          exact hv
      · have hno : ∀ e, c ≤ e → e < m → K e ≠ .eff := fun e h1 h2 h3 => by
          have := hI.eff e (hall e (by omega)) h3
          omega
        have hT := h.heap (hI.cut.imp id fun ⟨e, h1, h2, _⟩ => ⟨e, h1, h2⟩) hI.cm (Nat.le_refl _) hno
        have hT2 : Over K base (fun j => j ∈ L ∧ c ≤ j) (T c).cur (T m).H := hT.cong fun j oj _ => ⟨fun ⟨h1, h2⟩ => ⟨hall j (by omega), h1⟩, fun ⟨h1, h2⟩ => ⟨h2, hI.lt j h1⟩⟩
        exact GR.like (GR.weak (G := G) (G' := GdL G base all.size L) hG (fun _ h => h) fun k (hk : G.ids k) => Or.inl hk) (fun k o hk => by rw [hO.uniq hT2]; exact hk) (by rw [hO.next, hT2.next]; exact Nat.le_refl _)
    · have hlt : q < all.size := by
        rcases Nat.lt_or_ge q all.size with h | h
        · exact h
        · rw [Array.getElem?_eq_none h] at ho; cases ho
      exact absurd (hall q hlt) hqL
  | @step L l i o ho hi he hl ih =>
    intro hqL c a w μ hI hclr
    have hlt : i < all.size := by
      rcases Nat.lt_or_ge i all.size with h | h
      · exact h
      · rw [Array.getElem?_eq_none h] at ho; cases ho
    have him : i < m := by omega
    have plain : K i ≠ .gh → q ∉ i :: L → Goal P nt ρ G μ0 w0 b k cs (b.atR a (.inRegion all (i :: l) :: k)) w a.defers r := fun hng hq2 => by
      obtain ⟨a', w', μ', c', q1, q2, q3, q4⟩ := hI.step h (b := b) (k := k) (cs := cs) (l := l) hrec hD hN hgi hclr ho him hng hi he
      have := ih hq2 q3 q4
      rw [q2] at this
      exact Goal.pre q1 this
    rcases hr with ⟨hng, hqm, _⟩ | ⟨oq, ch, H', hoq, hp, rfl, hgh, hlate⟩
    · refine plain (hng i him) fun hc => ?_
      rcases List.mem_cons.1 hc with h1 | h1
      · omega
      · exact hqL h1
    · by_cases hiq : i = q
      · subst hiq
        rw [ho] at hoq; cases hoq
        obtain ⟨ch', w', μ', q1, q2, q3, q4, q5, q6⟩ := hI.panics h (b := b) (k := k) (cs := cs) (l := l) hrec hD hN hclr ho (Nat.le_of_lt him) hlate hi he hp
        exact ⟨a, w', μ', _, ch', q1, rfl, q2, q3, q4, q5, q6⟩
      · have hng : K i ≠ .gh := fun hk => by
          rcases hgh i him hk with h1 | h1
          · exact hiq h1
          · exact hqL (h.plan.closed hI.clo i o ho he q h1)
        refine plain hng fun hc => ?_
        rcases List.mem_cons.1 hc with h1 | h1
        · exact hiq h1.symm
        · exact hqL h1
end

theorem drawA_ok {P : Program} {D : Dec} {rec : Rec} {ρ : Nat → Int} (hmix : P.follows .mixedOrders = true) (hrec : RecOK P ρ rec) (hD : D.OK P ρ) (hN : NoNG P) : RgOK P ρ (drawA P D rec) := by
  intro G μ H w nt E b a k cs id ops hE hG
  suffices hs : Goal P nt ρ G μ w b k cs (b.atR a (.code (.region id ops true) :: k)) w a.defers (drawA P D rec nt E H ops) by
    generalize drawA P D rec nt E H ops = r at hs
    cases r <;> exact hs
  by_cases hbad : drawA P D rec nt E H ops = .bad
  · rw [hbad]; trivial
  generalize hr : drawA P D rec nt E H ops = r at hbad
  unfold drawA at hr
  split at hr
  · exact absurd hr.symm hbad
  · rename_i mt hp
    have plan := plan_ok hp
    obtain ⟨T, K, h2, h3, h4, h5⟩ := drawGo_ok (P := P) (D := D) (rec := rec) (all := ops) (mt := mt) (base := H.next) (nt := nt) (E0 := E) ops.toList 0 _ _ _ _ _ _ _ r rfl (Nat.zero_le _) hr hbad
    have htxt : Txt P D rec ops mt H.next nt T K ops.size := ⟨plan, Nat.le_refl _, fun j o hj ho => h4 j o (Nat.zero_le _) ho, by rw [h3], by rw [h3], by rw [h3]⟩
    have hlin : Lin ops [] (Region.schedule (P.follows .mixedOrders) ops (w.tape w.drawn (.order b.fn id))) := by
      rw [hmix]
      unfold Region.schedule
      rw [if_pos (by simp)]
      unfold Region.linearise
      refine lin_go ops plan.acy _ _ _ [] (by simp) (fun i hi => ?_) ?_
      · rw [Array.getD_eq_getD_getElem?, Array.getElem?_replicate, if_pos hi]; simp
      · exact Nat.le_trans List.countP_le_length (by simp)
    refine Goal.pre (.one stepR_region_draw) ?_
    obtain ⟨q, hr5⟩ : ∃ q, ((∀ j, j < ops.size → K j ≠ .gh) ∧ q = ops.size ∧ r = .ok (T ops.size).E (T ops.size).H) ∨ (∃ o c H', ops[q]? = some o ∧ TPan P D rec ops mt q o (T q) c H' ∧ r = .pan (clearA ops.toList (T 0).E) c H' ∧ (∀ j, j < ops.size → K j = .gh → j = q ∨ bitA (og (mt.get j) 0) q = true) ∧ ∀ j, q < j → j < ops.size → K j ≠ .eff) := by
      rcases h5 with ⟨h5, h6⟩ | ⟨p, o, c, H', _, h6, h7, h8, h9, h10⟩
      · exact ⟨ops.size, .inl ⟨fun j hj => h5 j (Nat.zero_le _) hj, rfl, h6⟩⟩
      · exact ⟨p, .inr ⟨o, c, H', h6, h7, by rw [h3]; exact h8, fun j hj => h9 j (Nat.zero_le _) hj, h10⟩⟩
    refine any_order (μ0 := μ) (w0 := w) (c := 0) (μ := μ) htxt rfl hrec hD hN (fun k hk => (hG.rid k hk).1) q hr5 hlin (by simp) ⟨fun i hi => by simp at hi, fun i hi => by simp at hi, Nat.zero_le _, .inl rfl, fun e he => by simp at he, fun i hi => by omega, ⟨E, fun t => ⟨fun k o hk => by simp at hk, fun _ => by rw [h3]⟩, hE⟩,
      ⟨(T 0).cur, ⟨rfl, fun i o hi => by simp at hi, fun _ _ => rfl⟩, ?_⟩, Mu.le_refl _, Fr.drew _ _⟩ fun j o _ _ _ => ?_
    · rw [h3]
      refine GR.idsUp (G := G) hG.drew (Nat.le_add_right _ _) fun k hk => hk.imp (fun h => h) fun ⟨i, q1, q2, q3⟩ => ?_
      subst q3
      have : ops.toList.length = ops.size := by simp
      exact ⟨Nat.le_add_right _ _, by show _ < H.next + ops.toList.length; omega⟩
    · rw [h3]
      show H.tr.get (H.next + j) = none
      cases hg : H.tr.get (H.next + j) with
      | none => rfl
      | some x =>
        obtain ⟨b1, n1, y, g1, _⟩ := hG.obj _ _ hg
        have := (hG.dom _ _ _ g1).1
        omega

/-! ### Runs -/
section
variable {P : Program} {D : Dec} {ρ : Nat → Int} {G : Gd} {μ : Mu} {w : World}
/-- A step, and what runs on from there. -/
theorem run_step {rec : Rec} (hrec : RecOK P ρ rec) {m : AM} {cs0 : List Frame} {fr : Frame} {cs : List Frame} {s : SR} (hs : SROK P G μ ρ cs0 fr cs w s) (_hm : MR G μ ρ m cs0 fr cs w) (fn : FuncId) (H' : Heap) :
    let r := SR.rec (motive := fun _ => Option (FuncId × Fin' × Heap)) (fun m' => rec m') (fun fn f H => some (fn, f, H)) (fun v H => some (0, .ret v, H)) none s
    (∀ v, r = some (fn, .ret v, H') → ∃ v' w' μ', Mu.le μ μ' ∧ VR μ' ρ v v' ∧ GR G μ' ρ H' w' ∧ Fr G w w' ∧
      ((∃ fr', Steps P (lone fr cs w) (lone fr' cs0 w') ∧ fr'.fn = fn ∧ fr'.leaving P w' (.returned v')) ∨ (fn = 0 ∧ ∀ c cs', cs0 = c :: cs' → Steps P (lone fr cs w) (lone (c.finish v') cs' w')))) ∧
    (∀ ch, r = some (fn, .pan ch, H') → ∃ ch' fr' w' μ', Mu.le μ μ' ∧ L2 (EntR μ' ρ) ch ch' ∧ GR G μ' ρ H' w' ∧ Fr G w w' ∧ Steps P (lone fr cs w) (lone fr' cs0 w') ∧ fr'.fn = fn ∧ fr'.leaving P w' (.panicked ch')) := by
  cases s with
  | next m' =>
    obtain ⟨fr', cs', w', μ', q1, q2, q3, q4⟩ := hs
    obtain ⟨r1, r2⟩ := hrec G μ' m' cs0 fr' cs' w' q3 fn H'
    refine ⟨fun v hv => ?_, fun ch hc => ?_⟩
    · obtain ⟨v', w2, μ2, s1, s2, s3, s4, s5⟩ := r1 v hv
      refine ⟨v', w2, μ2, Mu.le_trans q2 s1, s2, s3, q4.trans s4, ?_⟩
      rcases s5 with ⟨fr2, t1, t2⟩ | ⟨t0, t1⟩
      · exact .inl ⟨fr2, q1.trans t1, t2⟩
      · exact .inr ⟨t0, fun c cs' hc => q1.trans (t1 c cs' hc)⟩
    · obtain ⟨ch', fr2, w2, μ2, s1, s2, s3, s4, s5, s6⟩ := r2 ch hc
      exact ⟨ch', fr2, w2, μ2, Mu.le_trans q2 s1, s2, s3, q4.trans s4, q1.trans s5, s6⟩
  | fin fn0 f H0 =>
    cases f with
    | ret v0 =>
      obtain ⟨v', q1, q2, q3, q4, q5⟩ := hs
      refine ⟨fun v hv => ?_, fun ch hc => by simp at hc⟩
      simp only [Option.some.injEq, Prod.mk.injEq, Fin'.ret.injEq] at hv
      obtain ⟨rfl, rfl, rfl⟩ := hv
      exact ⟨v', w, μ, Mu.le_refl _, q3, q4, Fr.refl _ _, .inl ⟨fr, by rw [q5]; exact Steps.refl _ _, q1, q2⟩⟩
    | pan c0 =>
      obtain ⟨v', q1, q2, q3, q4, q5⟩ := hs
      refine ⟨fun v hv => by simp at hv, fun ch hc => ?_⟩
      simp only [Option.some.injEq, Prod.mk.injEq, Fin'.pan.injEq] at hc
      obtain ⟨rfl, rfl, rfl⟩ := hc
      exact ⟨v', fr, w, μ, Mu.le_refl _, q3, q4, Fr.refl _ _, by rw [q5]; exact Steps.refl _ _, q1, q2⟩
  | finR v0 H0 =>
    obtain ⟨v', w', q1, q2, q3, q4, q5⟩ := hs
    refine ⟨fun v hv => ?_, fun ch hc => by simp at hc⟩
    simp only [Option.some.injEq, Prod.mk.injEq, Fin'.ret.injEq] at hv
    obtain ⟨rfl, rfl, rfl⟩ := hv
    exact ⟨v', w', μ, Mu.le_refl _, q1, q2, q3, .inr ⟨rfl, fun c cs' hc => .one (q5 c cs' hc)⟩⟩
  | bad => exact ⟨fun v hv => (by simp at hv), fun ch hc => (by simp at hc)⟩
theorem run_ok (hmix : P.follows .mixedOrders = true) (hD : D.OK P ρ) (hN : NoNG P) : ∀ n, RecOK P ρ (run P D n)
  | 0 => fun G μ m cs0 fr cs w hm fn H' => ⟨fun v hv => (by simp [run] at hv), fun ch hc => (by simp [run] at hc)⟩
  | n + 1 => fun G μ m cs0 fr cs w hm fn H' =>
    run_step (run_ok hmix hD hN n) (astep_ok hD (drawA_ok hmix (run_ok hmix hD hN n) hD hN) hN hm) hm fn H'
/-- A run that ends says what a call comes to. -/
theorem calls_of_rec {rec : Rec} (hrec : RecOK P ρ rec) {f : FuncId} {args : List AV} {args' : Array Value} (hargs : VRs (fun _ => none) ρ args args'.toList) {g : AF} (hg : enterA P f args false = some g) {v : AV} {H' : Heap} (hf : f ≠ 0)
    (hr : rec ⟨g, [], emptyH⟩ = some (f, .ret v, H')) (w : World) {R : Ending → World → Prop}
    (hR : ∀ (μ : Mu) (v' : Value) (w' : World), VR μ ρ v v' → GR ⟨fun b => b < w.heap.size, fun _ => False⟩ μ ρ H' w' → Fr ⟨fun b => b < w.heap.size, fun _ => False⟩ w w' → R (.returned v') w') : Calls P f args' w R := by
  intro cs
  obtain ⟨g1, _, _, _, _⟩ := enter_ok hg hargs
  have hm : MR ⟨fun b => b < w.heap.size, fun _ => False⟩ (fun _ => none) ρ ⟨g, [], emptyH⟩ cs (Frame.enter P f args' .normal) cs w := ⟨by simpa [kindOf] using g1, ⟨[], rfl, .nil⟩, GR.empty w⟩
  obtain ⟨v', w', μ', q1, q2, q3, q4, q5⟩ := (hrec _ _ _ _ _ _ _ hm f H').1 v hr
  rcases q5 with ⟨fr', s1, s2, s3⟩ | ⟨s0, _⟩
  · exact ⟨.returned v', w', fr', hR μ' v' w' q2 q3 q4, s1, s2, s3⟩
  · exact absurd s0 hf
end
end Vx
