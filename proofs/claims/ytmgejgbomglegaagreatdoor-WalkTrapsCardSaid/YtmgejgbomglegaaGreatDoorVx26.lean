/-
  The quick machine is right.
-/
import Derived.Test.YtmgejgbomglegaaGreatDoorVx17
import Derived.Test.YtmgejgbomglegaaGreatDoorVx25
namespace Vx
open Go

noncomputable def amFS (s : FS) : AM := FS.rec (motive := fun _ => AM) (fun x E todo H => amOf x E todo H) (fun m => m) s
theorem am_norm (m : AM) : amFS (norm m) = m := by
  obtain ⟨⟨fn, df, ro, nt, E, todo, dfs, mode⟩, cs, H⟩ := m
  cases mode <;> rfl
theorem norm_am_fast (x : FX) (E : Tr AV) (todo : List AItem) (H : Heap) : norm (amFS (.fast x E todo H)) = .fast x E todo H := rfl
section
variable {P : Program} {D : Dec} {rg : Rg}
inductive AStar (P : Program) (D : Dec) (rg : Rg) : AM → AM → Prop
  | refl {m : AM} : AStar P D rg m m
  | step {m m1 m2 : AM} (h : astep P D rg m = .next m1) (hs : AStar P D rg m1 m2) : AStar P D rg m m2
theorem AStar.trans {a b c : AM} (h : AStar P D rg a b) (k : AStar P D rg b c) : AStar P D rg a c := by
  induction h with
  | refl => exact k
  | step h _ ih => exact .step h (ih k)
theorem AStar.one {a b : AM} (h : astep P D rg a = .next b) : AStar P D rg a b := .step h .refl
theorem AStar.ok {ρ : Nat → Int} {G : Gd} (hD : D.OK P ρ) (hrg : RgOK P ρ rg) (hN : NoNG P) {cs0 : List Frame} {m m' : AM} (h : AStar P D rg m m') : ∀ {μ : Mu} {fr : Frame} {cs : List Frame} {w : World}, MR G μ ρ m cs0 fr cs w →
    ∃ fr' cs' w' μ', Steps P (lone fr cs w) (lone fr' cs' w') ∧ Mu.le μ μ' ∧ MR G μ' ρ m' cs0 fr' cs' w' ∧ Fr G w w' := by
  induction h with
  | refl => intro μ fr cs w hm; exact ⟨fr, cs, w, μ, Steps.refl _ _, Mu.le_refl _, hm, Fr.refl _ _⟩
  | step h _ ih =>
    intro μ fr cs w hm
    have h1 := astep_ok hD hrg hN hm
    rw [h] at h1
    obtain ⟨fr1, cs1, w1, μ1, q1, q2, q3, q4⟩ := h1
    obtain ⟨fr2, cs2, w2, μ2, r1, r2, r3, r4⟩ := ih q3
    exact ⟨fr2, cs2, w2, μ2, q1.trans r1, Mu.le_trans q2 r2, r3, q4.trans r4⟩
/-- A quick step is so many steps. -/
def StepOK (P : Program) (D : Dec) (rg : Rg) (m : AM) : FR' → Prop
  | .next s' => AStar P D rg m (amFS s') ∧ norm (amFS s') = s'
  | .fin r => r = none ∨ ∃ m', AStar P D rg m m' ∧ ofSR (astep P D rg m') = .fin r
theorem StepOK.pre {m m1 : AM} {r : FR'} (h : AStar P D rg m m1) (k : StepOK P D rg m1 r) : StepOK P D rg m r := by
  cases r with
  | next s => exact ⟨h.trans k.1, k.2⟩
  | fin r => exact k.imp id fun ⟨m', q1, q2⟩ => ⟨m', h.trans q1, q2⟩
theorem ofSR_ok (m : AM) : StepOK P D rg m (ofSR (astep P D rg m)) := by
  cases h : astep P D rg m with
  | next m' => exact ⟨by rw [am_norm]; exact .one h, by rw [am_norm]⟩
  | fin fn f H => exact .inr ⟨m, .refl, by rw [h]; rfl⟩
  | finR v H => exact .inr ⟨m, .refl, by rw [h]; rfl⟩
  | bad => exact .inl rfl
theorem slowF_ok (x : FX) (E : Tr AV) (todo : List AItem) (H : Heap) : StepOK P D rg (amOf x E todo H) (slowF P D rg x E todo H) := ofSR_ok _
theorem goF {x : FX} {E E' : Tr AV} {todo k : List AItem} {H H' : Heap} (h : astep P D rg (amOf x E todo H) = .next (amOf x E' k H')) : StepOK P D rg (amOf x E todo H) (.next (.fast x E' k H')) := ⟨.one h, rfl⟩
theorem opsVal_put {nt : Nat} {o : Oper} {rest : List Oper} {ih : OpsT} {E : Tr AV} {H : Heap} {v : AV} {H' : Heap} :
    (∃ E', putA nt E o.dst v = some E' ∧ opsVal nt o rest ih E H v H' = ih E' H') ∨ opsVal nt o rest ih E H v H' = .stop (o :: rest) E H := by
  unfold opsVal putA
  cases o.dst with
  | none => exact .inl ⟨E, rfl, rfl⟩
  | some d =>
    dsimp only
    cases Nat.ble (Nat.succ d) nt with
    | true => exact .inl ⟨_, rfl, rfl⟩
    | false => exact .inr rfl
/-- What a row of operations comes to. -/
def OpsOK (P : Program) (D : Dec) (rg : Rg) (x : FX) (all : Array Oper) (k : List AItem) (m : AM) : OpsR → Prop
  | .done E' H' => AStar P D rg m (amOf x E' k H')
  | .stop rest' E' H' => AStar P D rg m (amOf x E' (.inOps all rest' :: k) H')
theorem OpsOK.pre {x : FX} {all : Array Oper} {k : List AItem} {m m1 : AM} {r : OpsR} (h : AStar P D rg m m1) (hk : OpsOK P D rg x all k m1 r) : OpsOK P D rg x all k m r := by
  cases r <;> exact h.trans hk
theorem opsF_ok (x : FX) (all : Array Oper) (k : List AItem) : ∀ (l : List Oper) (E : Tr AV) (H : Heap), OpsOK P D rg x all k (amOf x E (.inOps all l :: k) H) (opsF P D x.nt all.toList l E H)
  | [], E, H => AStar.one rfl
  | o :: rest, E, H => by
    have stop : OpsOK P D rg x all k (amOf x E (.inOps all (o :: rest) :: k) H) (.stop (o :: rest) E H) := AStar.refl
    have hst : astep P D rg (amOf x E (.inOps all (o :: rest) :: k) H) = opStep P D x.fn x.df x.ro x.nt E all o rest k x.dfs x.cs H := rfl
    show OpsOK P D rg x all k _ (opsCons P D x.nt all.toList o rest (opsF P D x.nt all.toList rest) E H)
    unfold opsCons
    rw [guardF_eq]
    cases hw : wantedA all E o with
    | none => exact stop
    | some b =>
      cases b with
      | false =>
        show OpsOK P D rg x all k _ (opsVal x.nt o rest (opsF P D x.nt all.toList rest) E H (.tup []) H)
        rcases opsVal_put (nt := x.nt) (o := o) (rest := rest) (ih := opsF P D x.nt all.toList rest) (E := E) (H := H) (v := .tup []) (H' := H) with ⟨E', h1, h2⟩ | h1
        · rw [h2]
          refine OpsOK.pre (.one ?_) (opsF_ok x all k rest E' H)
          rw [hst]
          unfold opStep
          simp only [hw, h1]
          rfl
        · rw [h1]; exact stop
      | true =>
        show OpsOK P D rg x all k _ (opsGo P D x.nt o rest (opsF P D x.nt all.toList rest) E H)
        unfold opsGo
        rw [opF_eq]
        cases ho : opA P D E H o.op with
        | val v H1 =>
          show OpsOK P D rg x all k _ (opsVal x.nt o rest (opsF P D x.nt all.toList rest) E H v H1)
          rcases opsVal_put (nt := x.nt) (o := o) (rest := rest) (ih := opsF P D x.nt all.toList rest) (E := E) (H := H) (v := v) (H' := H1) with ⟨E', h1, h2⟩ | h1
          · rw [h2]
            refine OpsOK.pre (.one ?_) (opsF_ok x all k rest E' H1)
            rw [hst]
            unfold opStep
            simp only [hw, ho, h1]
            rfl
          · rw [h1]; exact stop
        | _ => exact stop
theorem opsEnd_ok {x : FX} {all : Array Oper} {k : List AItem} {m : AM} {r : OpsR} (h : OpsOK P D rg x all k m r) : StepOK P D rg m (opsEnd P D rg all x k r) := by
  cases r with
  | done E H => exact ⟨h, rfl⟩
  | stop rest E H => exact StepOK.pre h (slowF_ok _ _ _ _)
theorem codeF_ok (c : Code) (x : FX) (E : Tr AV) (k : List AItem) (H : Heap) : StepOK P D rg (amOf x E (.code c :: k) H) (codeF P D rg c x E k H) := by
  cases c with
  | skip => exact goF rfl
  | region id ops draw =>
    cases draw with
    | true => exact slowF_ok _ _ _ _
    | false =>
      refine StepOK.pre (m1 := amOf x E (.inOps ops ops.toList :: k) H) (.one rfl) (opsEnd_ok (opsF_ok x ops k ops.toList E H))
  | seq a b => exact goF rfl
  | cond c a b =>
    show StepOK P D rg _ (Option.rec (motive := fun _ => FR') (.fin none) (cond1 a b x E k H) (ev E c))
    cases hc : ev E c with
    | none => exact .inl rfl
    | some v =>
      show StepOK P D rg _ (cond1 a b x E k H v)
      unfold cond1
      split
      · rename_i t
        have hst : astep P D rg (amOf x E (.code (.cond c a b) :: k) H) = codeStep P rg x.fn x.df x.ro x.nt E (.cond c a b) k x.dfs x.cs H := rfl
        cases t with
        | true =>
          refine goF ?_
          rw [hst]; simp only [codeStep, hc]; rfl
        | false =>
          refine goF ?_
          rw [hst]; simp only [codeStep, hc]; rfl
      · exact .inl rfl
  | block id b => exact goF rfl
  | loop b => exact goF rfl
  | rangeFunc f ps a b => exact slowF_ok _ _ _ _
  | exit id =>
    show StepOK P D rg _ (Option.rec (motive := fun _ => FR') (slowF P D rg x E (.code (.exit id) :: k) H) (fun k' => .next (.fast x E k' H)) (exitToA id k))
    cases he : exitToA id k with
    | none => exact slowF_ok _ _ _ _
    | some k' =>
      refine goF ?_
      have hst : astep P D rg (amOf x E (.code (.exit id) :: k) H) = codeStep P rg x.fn x.df x.ro x.nt E (.exit id) k x.dfs x.cs H := rfl
      rw [hst]; simp only [codeStep, he]; rfl
  | label l => exact goF rfl
  | scope b => exact goF rfl
  | goto l =>
    show StepOK P D rg _ (Option.rec (motive := fun _ => FR') (.fin none) (fun k' => .next (.fast x E k' H)) (gotoA l k))
    cases he : gotoA l k with
    | none => exact .inl rfl
    | some k' =>
      refine goF ?_
      have hst : astep P D rg (amOf x E (.code (.goto l) :: k) H) = codeStep P rg x.fn x.df x.ro x.nt E (.goto l) k x.dfs x.cs H := rfl
      rw [hst]; simp only [codeStep, he]; rfl
  | ret => exact slowF_ok _ _ _ _
  | _ => exact .inl rfl
theorem todoF_ok (todo : List AItem) (x : FX) (E : Tr AV) (H : Heap) : StepOK P D rg (amOf x E todo H) (todoF P D rg todo x E H) := by
  cases todo with
  | nil => exact slowF_ok _ _ _ _
  | cons it k =>
    cases it with
    | code c => exact codeF_ok c x E k H
    | inBlock id => exact goF rfl
    | inLoop b => exact goF rfl
    | inScope b => exact goF rfl
    | inOps all rest => exact opsEnd_ok (opsF_ok x all k rest E H)
    | inRF l => exact slowF_ok _ _ _ _
    | endRF l => exact slowF_ok _ _ _ _
    | beginRound => exact slowF_ok _ _ _ _
theorem stepFS_ok (s : FS) : StepOK P D rg (amFS s) (stepFS P D rg s) := by
  cases s with
  | fast x E todo H => exact todoF_ok todo x E H
  | gen m => exact ofSR_ok m
end
/-- A step of any make that is so many steps. -/
noncomputable def loopG (P : Program) (D : Dec) (stp : Rg → FS → FR') (ih : FS → Option (FuncId × Fin' × Heap)) (s : FS) : Option (FuncId × Fin' × Heap) :=
  FR'.rec (motive := fun _ => Option (FuncId × Fin' × Heap)) (fun s' => ih s') (fun r => r) (stp (drawA P D (fun m => ih (norm m))) s)
theorem loop_gen {P : Program} {D : Dec} {ρ : Nat → Int} {stp : Rg → FS → FR'} (hstp : ∀ rg s, StepOK P D rg (amFS s) (stp rg s)) (hmix : P.follows .mixedOrders = true) (hD : D.OK P ρ) (hN : NoNG P) {ih : FS → Option (FuncId × Fin' × Heap)} (hih : RecOK P ρ (fun m => ih (norm m))) : RecOK P ρ (fun m => loopG P D stp ih (norm m)) := by
  intro G μ m cs0 fr cs w hm fn H'
  have hrg : RgOK P ρ (drawA P D (fun m => ih (norm m))) := drawA_ok hmix hih hD hN
  have hst := hstp (drawA P D (fun m => ih (norm m))) (norm m)
  rw [am_norm] at hst
  dsimp only
  unfold loopG
  generalize stp (drawA P D (fun m => ih (norm m))) (norm m) = r at hst
  cases r with
  | next s' =>
    obtain ⟨h1, h2⟩ := hst
    obtain ⟨fr', cs', w', μ', q1, q2, q3, q4⟩ := h1.ok hD hrg hN hm
    obtain ⟨r1, r2⟩ := hih G μ' (amFS s') cs0 fr' cs' w' q3 fn H'
    simp only [h2] at r1 r2
    refine ⟨fun v hv => ?_, fun ch hc => ?_⟩
    · obtain ⟨v', w2, μ2, s1, s2, s3, s4, s5⟩ := r1 v hv
      refine ⟨v', w2, μ2, Mu.le_trans q2 s1, s2, s3, q4.trans s4, ?_⟩
      rcases s5 with ⟨fr2, t1, t2⟩ | ⟨t0, t1⟩
      · exact .inl ⟨fr2, q1.trans t1, t2⟩
      · exact .inr ⟨t0, fun c cs' hc => q1.trans (t1 c cs' hc)⟩
    · obtain ⟨ch', fr2, w2, μ2, s1, s2, s3, s4, s5, s6⟩ := r2 ch hc
      exact ⟨ch', fr2, w2, μ2, Mu.le_trans q2 s1, s2, s3, q4.trans s4, q1.trans s5, s6⟩
  | fin r =>
    rcases hst with rfl | ⟨m', h1, h2⟩
    · exact ⟨fun v hv => (by cases hv), fun ch hc => (by cases hc)⟩
    · obtain ⟨fr', cs', w', μ', q1, q2, q3, q4⟩ := h1.ok hD hrg hN hm
      have hs := astep_ok hD hrg hN q3
      obtain ⟨r1, r2⟩ := run_step hih hs q3 fn H'
      have e : (SR.rec (motive := fun _ => Option (FuncId × Fin' × Heap)) (fun m' => ih (norm m')) (fun fn f H => some (fn, f, H)) (fun v H => some (0, .ret v, H)) none (astep P D (drawA P D (fun m => ih (norm m))) m')) = r := by
        generalize astep P D (drawA P D (fun m => ih (norm m))) m' = a at h2
        cases a <;> simp [ofSR] at h2 <;> exact h2
      rw [e] at r1 r2
      refine ⟨fun v hv => ?_, fun ch hc => ?_⟩
      · obtain ⟨v', w2, μ2, s1, s2, s3, s4, s5⟩ := r1 v hv
        refine ⟨v', w2, μ2, Mu.le_trans q2 s1, s2, s3, q4.trans s4, ?_⟩
        rcases s5 with ⟨fr2, t1, t2⟩ | ⟨t0, t1⟩
        · exact .inl ⟨fr2, q1.trans t1, t2⟩
        · exact .inr ⟨t0, fun c cs' hc => q1.trans (t1 c cs' hc)⟩
      · obtain ⟨ch', fr2, w2, μ2, s1, s2, s3, s4, s5, s6⟩ := r2 ch hc
        exact ⟨ch', fr2, w2, μ2, Mu.le_trans q2 s1, s2, s3, q4.trans s4, q1.trans s5, s6⟩
theorem loop_rec {P : Program} {D : Dec} {ρ : Nat → Int} (hmix : P.follows .mixedOrders = true) (hD : D.OK P ρ) (hN : NoNG P) {ih : FS → Option (FuncId × Fin' × Heap)} (hih : RecOK P ρ (fun m => ih (norm m))) : RecOK P ρ (fun m => loopK P D ih (norm m)) :=
  loop_gen (stp := stepFS P D) (fun _ s => stepFS_ok s) hmix hD hN hih
theorem runF_ok {P : Program} {D : Dec} {ρ : Nat → Int} (hmix : P.follows .mixedOrders = true) (hD : D.OK P ρ) (hN : NoNG P) : ∀ n, RecOK P ρ (runF P D n)
  | 0 => fun G μ m cs0 fr cs w hm fn H' => ⟨fun v hv => (by simp [runF, runFS] at hv), fun ch hc => (by simp [runF, runFS] at hc)⟩
  | n + 1 => loop_rec hmix hD hN (ih := runFS P D n) (runF_ok hmix hD hN n)
end Vx
