/-
  The evaluator: the quick machine.
-/
import Derived.Test.YtgccmnnenhncpaaGreatDoorVmD
/-! The quick machine is right. -/
namespace Vx
open Go

noncomputable def amFS (s : FS) : AM := FS.rec (motive := fun _ => AM) (fun x E todo H => amOf x E todo H) (fun m => m) s
theorem am_norm (m : AM) : amFS (norm m) = m := by
  obtain ⟨⟨fn, df, ro, nt, E, todo, dfs, mode⟩, cs, H⟩ := m
  cases mode <;> rfl
theorem norm_am_fast (x : FX) (E : Tr AV) (todo : List AItem) (H : Heap) : norm (amFS (.fast x E todo H)) = .fast x E todo H := rfl
section
variable {P : Program} {D : Dec} {rg : Rg}
inductive AStar (P : Program) (D : Dec) (rg : Rg) : AM → AM → Prop
  | refl {m : AM} : AStar P D rg m m
  | step {m m1 m2 : AM} (h : astep P D rg m = .next m1) (hs : AStar P D rg m1 m2) : AStar P D rg m m2
theorem AStar.trans {a b c : AM} (h : AStar P D rg a b) (k : AStar P D rg b c) : AStar P D rg a c := by
  induction h with
  | refl => exact k
  | step h _ ih => exact .step h (ih k)
theorem AStar.one {a b : AM} (h : astep P D rg a = .next b) : AStar P D rg a b := .step h .refl
theorem AStar.ok {ρ : Env} {G : Gd} (hD : D.OK P ρ) (hrg : RgOK P ρ rg) (hN : NoNG P) {cs0 : List Frame} {m m' : AM} (h : AStar P D rg m m') : ∀ {μ : Mu} {fr : Frame} {cs : List Frame} {w : World}, MR G μ ρ m cs0 fr cs w →
    ∃ fr' cs' w' μ', Steps P (lone fr cs w) (lone fr' cs' w') ∧ Mu.le μ μ' ∧ MR G μ' ρ m' cs0 fr' cs' w' ∧ Fr G w w' := by
  induction h with
  | refl => intro μ fr cs w hm; exact ⟨fr, cs, w, μ, Steps.refl _ _, Mu.le_refl _, hm, Fr.refl _ _⟩
  | step h _ ih =>
    intro μ fr cs w hm
    have h1 := astep_ok hD hrg hN hm
    rw [h] at h1
    obtain ⟨fr1, cs1, w1, μ1, q1, q2, q3, q4⟩ := h1
    obtain ⟨fr2, cs2, w2, μ2, r1, r2, r3, r4⟩ := ih q3
    exact ⟨fr2, cs2, w2, μ2, q1.trans r1, Mu.le_trans q2 r2, r3, q4.trans r4⟩
/-- A quick step is so many steps. -/
def StepOK (P : Program) (D : Dec) (rg : Rg) (m : AM) : FR' → Prop
  | .next s' => AStar P D rg m (amFS s') ∧ norm (amFS s') = s'
  | .fin r => r = none ∨ ∃ m', AStar P D rg m m' ∧ ofSR (astep P D rg m') = .fin r
theorem StepOK.pre {m m1 : AM} {r : FR'} (h : AStar P D rg m m1) (k : StepOK P D rg m1 r) : StepOK P D rg m r := by
  cases r with
  | next s => exact ⟨h.trans k.1, k.2⟩
  | fin r => exact k.imp id fun ⟨m', q1, q2⟩ => ⟨m', h.trans q1, q2⟩
theorem ofSR_ok (m : AM) : StepOK P D rg m (ofSR (astep P D rg m)) := by
  cases h : astep P D rg m with
  | next m' => exact ⟨by rw [am_norm]; exact .one h, by rw [am_norm]⟩
  | fin fn f H => exact .inr ⟨m, .refl, by rw [h]; rfl⟩
  | finR v H => exact .inr ⟨m, .refl, by rw [h]; rfl⟩
  | bad => exact .inl rfl
theorem slowF_ok (x : FX) (E : Tr AV) (todo : List AItem) (H : Heap) : StepOK P D rg (amOf x E todo H) (slowF P D rg x E todo H) := slowF_eq P D rg x E todo H ▸ ofSR_ok _
theorem goF {x : FX} {E E' : Tr AV} {todo k : List AItem} {H H' : Heap} (h : astep P D rg (amOf x E todo H) = .next (amOf x E' k H')) : StepOK P D rg (amOf x E todo H) (.next (.fast x E' k H')) := ⟨.one h, rfl⟩
theorem opsVal_put {nt : Nat} {o : Oper} {rest : List Oper} {ih : OpsT} {E : Tr AV} {H : Heap} {v : AV} {H' : Heap} :
    (∃ E', putA nt E o.dst v = some E' ∧ opsVal nt o rest ih E H v H' = ih E' H') ∨ opsVal nt o rest ih E H v H' = .stop (o :: rest) E H := by
  unfold opsVal putA
  cases o.dst with
  | none => exact .inl ⟨E, rfl, rfl⟩
  | some d =>
    dsimp only
    cases Nat.ble (Nat.succ d) nt with
    | true => exact .inl ⟨_, rfl, rfl⟩
    | false => exact .inr rfl
/-- What a row of operations comes to. -/
def OpsOK (P : Program) (D : Dec) (rg : Rg) (x : FX) (all : Array Oper) (k : List AItem) (m : AM) : OpsR → Prop
  | .done E' H' => AStar P D rg m (amOf x E' k H')
  | .stop rest' E' H' => AStar P D rg m (amOf x E' (.inOps all rest' :: k) H')
theorem OpsOK.pre {x : FX} {all : Array Oper} {k : List AItem} {m m1 : AM} {r : OpsR} (h : AStar P D rg m m1) (hk : OpsOK P D rg x all k m1 r) : OpsOK P D rg x all k m r := by
  cases r <;> exact h.trans hk
theorem opsF_ok (x : FX) (all : Array Oper) (k : List AItem) : ∀ (l : List Oper) (E : Tr AV) (H : Heap), OpsOK P D rg x all k (amOf x E (.inOps all l :: k) H) (opsF P D x.nt all.toList l E H)
  | [], E, H => AStar.one rfl
  | o :: rest, E, H => by
    have stop : OpsOK P D rg x all k (amOf x E (.inOps all (o :: rest) :: k) H) (.stop (o :: rest) E H) := AStar.refl
    have hst : astep P D rg (amOf x E (.inOps all (o :: rest) :: k) H) = opStep P D x.fn x.df x.ro x.nt E all o rest k x.dfs x.cs H := rfl
    show OpsOK P D rg x all k _ (opsCons P D x.nt all.toList o rest (opsF P D x.nt all.toList rest) E H)
    unfold opsCons
    rw [guardF_eq]
    cases hw : wantedA all E o with
    | none => exact stop
    | some b =>
      cases b with
      | false =>
        show OpsOK P D rg x all k _ (opsVal x.nt o rest (opsF P D x.nt all.toList rest) E H (.tup []) H)
        rcases opsVal_put (nt := x.nt) (o := o) (rest := rest) (ih := opsF P D x.nt all.toList rest) (E := E) (H := H) (v := .tup []) (H' := H) with ⟨E', h1, h2⟩ | h1
        · rw [h2]
          refine OpsOK.pre (.one ?_) (opsF_ok x all k rest E' H)
          rw [hst]
          unfold opStep
          simp only [hw, h1]
          rfl
        · rw [h1]; exact stop
      | true =>
        show OpsOK P D rg x all k _ (opsGo P D x.nt o rest (opsF P D x.nt all.toList rest) E H)
        unfold opsGo
        rw [opF_eq]
        cases ho : opA P D E H o.op with
        | val v H1 =>
          show OpsOK P D rg x all k _ (opsVal x.nt o rest (opsF P D x.nt all.toList rest) E H v H1)
          rcases opsVal_put (nt := x.nt) (o := o) (rest := rest) (ih := opsF P D x.nt all.toList rest) (E := E) (H := H) (v := v) (H' := H1) with ⟨E', h1, h2⟩ | h1
          · rw [h2]
            refine OpsOK.pre (.one ?_) (opsF_ok x all k rest E' H1)
            rw [hst]
            unfold opStep
            simp only [hw, ho, h1]
            rfl
          · rw [h1]; exact stop
        | _ => exact stop
theorem opsEnd_ok {x : FX} {all : Array Oper} {k : List AItem} {m : AM} {r : OpsR} (h : OpsOK P D rg x all k m r) : StepOK P D rg m (opsEnd P D rg all x k r) := by
  cases r with
  | done E H => exact ⟨h, rfl⟩
  | stop rest E H => exact StepOK.pre h (slowF_ok _ _ _ _)
theorem codeF_ok (c : Code) (x : FX) (E : Tr AV) (k : List AItem) (H : Heap) : StepOK P D rg (amOf x E (.code c :: k) H) (codeF P D rg c x E k H) := by
  cases c with
  | skip => exact goF rfl
  | region id ops draw =>
    cases draw with
    | true => exact slowF_ok _ _ _ _
    | false =>
      refine StepOK.pre (m1 := amOf x E (.inOps ops ops.toList :: k) H) (.one rfl) (opsEnd_ok (opsF_ok x ops k ops.toList E H))
  | seq a b => exact goF rfl
  | cond c a b =>
    show StepOK P D rg _ (Option.rec (motive := fun _ => FR') (.fin none) (cond1 a b x E k H) (ev E c))
    cases hc : ev E c with
    | none => exact .inl rfl
    | some v =>
      show StepOK P D rg _ (cond1 a b x E k H v)
      unfold cond1
      split
      · rename_i t
        have hst : astep P D rg (amOf x E (.code (.cond c a b) :: k) H) = codeStep P rg x.fn x.df x.ro x.nt E (.cond c a b) k x.dfs x.cs H := rfl
        cases t with
        | true =>
          refine goF ?_
          rw [hst]; simp only [codeStep, hc]; rfl
        | false =>
          refine goF ?_
          rw [hst]; simp only [codeStep, hc]; rfl
      · exact .inl rfl
  | block id b => exact goF rfl
  | loop b => exact goF rfl
  | rangeFunc f ps a b => exact slowF_ok _ _ _ _
  | exit id =>
    show StepOK P D rg _ (Option.rec (motive := fun _ => FR') (slowF P D rg x E (.code (.exit id) :: k) H) (fun k' => .next (.fast x E k' H)) (exitToA id k))
    cases he : exitToA id k with
    | none => exact slowF_ok _ _ _ _
    | some k' =>
      refine goF ?_
      have hst : astep P D rg (amOf x E (.code (.exit id) :: k) H) = codeStep P rg x.fn x.df x.ro x.nt E (.exit id) k x.dfs x.cs H := rfl
      rw [hst]; simp only [codeStep, he]; rfl
  | label l => exact goF rfl
  | scope b => exact goF rfl
  | goto l =>
    show StepOK P D rg _ (Option.rec (motive := fun _ => FR') (.fin none) (fun k' => .next (.fast x E k' H)) (gotoA l k))
    cases he : gotoA l k with
    | none => exact .inl rfl
    | some k' =>
      refine goF ?_
      have hst : astep P D rg (amOf x E (.code (.goto l) :: k) H) = codeStep P rg x.fn x.df x.ro x.nt E (.goto l) k x.dfs x.cs H := rfl
      rw [hst]; simp only [codeStep, he]; rfl
  | ret => exact slowF_ok _ _ _ _
  | _ => exact .inl rfl
theorem todoF_ok (todo : List AItem) (x : FX) (E : Tr AV) (H : Heap) : StepOK P D rg (amOf x E todo H) (todoF P D rg todo x E H) := by
  cases todo with
  | nil => exact slowF_ok _ _ _ _
  | cons it k =>
    cases it with
    | code c => exact codeF_ok c x E k H
    | inBlock id => exact goF rfl
    | inLoop b => exact goF rfl
    | inScope b => exact goF rfl
    | inOps all rest => exact opsEnd_ok (opsF_ok x all k rest E H)
    | inRF l => exact slowF_ok _ _ _ _
    | endRF l => exact slowF_ok _ _ _ _
    | beginRound => exact slowF_ok _ _ _ _
theorem stepFS_ok (s : FS) : StepOK P D rg (amFS s) (stepFS P D rg s) := by
  cases s with
  | fast x E todo H => exact todoF_ok todo x E H
  | gen m => exact ofSR_ok m
end
/-- A step of any make that is so many steps. -/
noncomputable def loopG (P : Program) (D : Dec) (stp : Rg → FS → FR') (ih : FS → Option (FuncId × Fin' × Heap)) (s : FS) : Option (FuncId × Fin' × Heap) :=
  FR'.rec (motive := fun _ => Option (FuncId × Fin' × Heap)) (fun s' => ih s') (fun r => r) (stp (drawA P D (fun m => ih (norm m))) s)
theorem loop_gen {P : Program} {D : Dec} {ρ : Env} {stp : Rg → FS → FR'} (hstp : ∀ rg s, StepOK P D rg (amFS s) (stp rg s)) (hmix : P.follows .mixedOrders = true) (hD : D.OK P ρ) (hN : NoNG P) {ih : FS → Option (FuncId × Fin' × Heap)} (hih : RecOK P ρ (fun m => ih (norm m))) : RecOK P ρ (fun m => loopG P D stp ih (norm m)) := by
  intro G μ m cs0 fr cs w hm fn H'
  have hrg : RgOK P ρ (drawA P D (fun m => ih (norm m))) := drawA_ok hmix hih hD hN
  have hst := hstp (drawA P D (fun m => ih (norm m))) (norm m)
  rw [am_norm] at hst
  dsimp only
  unfold loopG
  generalize stp (drawA P D (fun m => ih (norm m))) (norm m) = r at hst
  cases r with
  | next s' =>
    obtain ⟨h1, h2⟩ := hst
    obtain ⟨fr', cs', w', μ', q1, q2, q3, q4⟩ := h1.ok hD hrg hN hm
    obtain ⟨r1, r2⟩ := hih G μ' (amFS s') cs0 fr' cs' w' q3 fn H'
    simp only [h2] at r1 r2
    refine ⟨fun v hv => ?_, fun ch hc => ?_⟩
    · obtain ⟨v', w2, μ2, s1, s2, s3, s4, s5⟩ := r1 v hv
      refine ⟨v', w2, μ2, Mu.le_trans q2 s1, s2, s3, q4.trans s4, ?_⟩
      rcases s5 with ⟨fr2, t1, t2⟩ | ⟨t0, t1⟩
      · exact .inl ⟨fr2, q1.trans t1, t2⟩
      · exact .inr ⟨t0, fun c cs' hc => q1.trans (t1 c cs' hc)⟩
    · obtain ⟨ch', fr2, w2, μ2, s1, s2, s3, s4, s5, s6⟩ := r2 ch hc
      exact ⟨ch', fr2, w2, μ2, Mu.le_trans q2 s1, s2, s3, q4.trans s4, q1.trans s5, s6⟩
  | fin r =>
    rcases hst with rfl | ⟨m', h1, h2⟩
    · exact ⟨fun v hv => (by cases hv), fun ch hc => (by cases hc)⟩
    · obtain ⟨fr', cs', w', μ', q1, q2, q3, q4⟩ := h1.ok hD hrg hN hm
      have hs := astep_ok hD hrg hN q3
      obtain ⟨r1, r2⟩ := run_step hih hs q3 fn H'
      have e : (SR.rec (motive := fun _ => Option (FuncId × Fin' × Heap)) (fun m' => ih (norm m')) (fun fn f H => some (fn, f, H)) (fun v H => some (0, .ret v, H)) none (astep P D (drawA P D (fun m => ih (norm m))) m')) = r := by
        generalize astep P D (drawA P D (fun m => ih (norm m))) m' = a at h2
        cases a <;> simp [ofSR] at h2 <;> exact h2
      rw [e] at r1 r2
      refine ⟨fun v hv => ?_, fun ch hc => ?_⟩
      · obtain ⟨v', w2, μ2, s1, s2, s3, s4, s5⟩ := r1 v hv
        refine ⟨v', w2, μ2, Mu.le_trans q2 s1, s2, s3, q4.trans s4, ?_⟩
        rcases s5 with ⟨fr2, t1, t2⟩ | ⟨t0, t1⟩
        · exact .inl ⟨fr2, q1.trans t1, t2⟩
        · exact .inr ⟨t0, fun c cs' hc => q1.trans (t1 c cs' hc)⟩
      · obtain ⟨ch', fr2, w2, μ2, s1, s2, s3, s4, s5, s6⟩ := r2 ch hc
        exact ⟨ch', fr2, w2, μ2, Mu.le_trans q2 s1, s2, s3, q4.trans s4, q1.trans s5, s6⟩
theorem loop_rec {P : Program} {D : Dec} {ρ : Env} (hmix : P.follows .mixedOrders = true) (hD : D.OK P ρ) (hN : NoNG P) {ih : FS → Option (FuncId × Fin' × Heap)} (hih : RecOK P ρ (fun m => ih (norm m))) : RecOK P ρ (fun m => loopK P D ih (norm m)) :=
  loop_gen (stp := stepFS P D) (fun _ s => stepFS_ok s) hmix hD hN hih
theorem runF_ok {P : Program} {D : Dec} {ρ : Env} (hmix : P.follows .mixedOrders = true) (hD : D.OK P ρ) (hN : NoNG P) : ∀ n, RecOK P ρ (runF P D n)
  | 0 => fun G μ m cs0 fr cs w hm fn H' => ⟨fun v hv => (by simp [runF, runFS] at hv), fun ch hc => (by simp [runF, runFS] at hc)⟩
  | n + 1 => loop_rec hmix hD hN (ih := runFS P D n) (runF_ok hmix hD hN n)
end Vx

/-! A law that is run, by the quick machine. -/
namespace Vx
open Go Go.RowKit
noncomputable def lawF (P : Program) (D : Dec) (n : Nat) (f : FuncId) (args : List AV) : Bool :=
  match enterA P f args false with
  | some g => isT f (runF P D n ⟨g, [], emptyH⟩)
  | none => false
theorem lawF_inv {P : Program} {D : Dec} {n : Nat} {f : FuncId} {args : List AV} (h : lawF P D n f args = true) : ∃ g H', enterA P f args false = some g ∧ runF P D n ⟨g, [], emptyH⟩ = some (f, .ret (.bool true), H') := by
  unfold lawF at h
  split at h
  · rename_i g hg
    unfold isT at h
    split at h
    · rename_i g' H' hr
      have e := Nat.eq_of_beq_eq_true h
      subst e
      exact ⟨g, H', hg, hr⟩
    · cases h
  · cases h
theorem lawF_calls {P : Program} {ρ : Env} (hmix : P.follows .mixedOrders = true) (hN : NoNG P) {D : Dec} (hD : D.OK P ρ) {n : Nat} {f : FuncId} (hf : f ≠ 0) {args : List AV} (h : lawF P D n f args = true) {args' : Array Value} (ha : VRs (fun _ => none) ρ args args'.toList) (w : World) (hi : InpOK ⟨fun b => b < w.heap.size, fun _ => False⟩ ρ w) :
    Calls P f args' w fun e w' => e = .returned (.bool true) ∧ Below w.heap.size w w' := by
  obtain ⟨g, H', hg, hr⟩ := lawF_inv h
  refine calls_of_rec (runF_ok hmix hD hN n) ha hg hf hr w hi fun μ v' w' hv _ hF => ?_
  cases hv
  exact ⟨rfl, hF.os, hF.tape, hF.output, hF.size, fun k hk => hF.block k hk hk⟩
end Vx

/-! Operations made ready ahead: each becomes a function whose getters and setters are found once. -/
namespace Vx
open Go

/-! ### Getters, setters -/
structure Gt : Type where
  g : Tr AV → Option AV
structure Pt : Type where
  p : Tr AV → AV → Tr AV
noncomputable def gtLo (s2 : T2 AV → T1 AV) (s1 : T1 AV → Option AV) (t : Tr AV) : Option AV := s1 (s2 t.lo)
noncomputable def gtFar (k : Nat) (t : Tr AV) : Option AV := t.get k
noncomputable def gtMid (s3 : T3 AV → T2 AV) (s2 : T2 AV → T1 AV) (s1 : T1 AV → Option AV) (t : Tr AV) : Option AV := s1 (s2 (s3 t.mid))
noncomputable def ptMid (s3 : T3 AV → T2 AV) (u3 : T3 AV → T2 AV → T3 AV) (s2 : T2 AV → T1 AV) (u2 : T2 AV → T1 AV → T2 AV) (u1 : T1 AV → Option AV → T1 AV) (t : Tr AV) (v : AV) : Tr AV :=
  Tr.rec (motive := fun _ => Tr AV) (fun lo mid hi far => ⟨lo, u3 mid (u2 (s3 mid) (u1 (s2 (s3 mid)) (some v))), hi, far⟩) t
noncomputable def mkGtM (k : Nat) : Gt :=
  Bool.rec (motive := fun _ => Gt) ⟨gtFar k⟩ (Dg.rec (motive := fun _ => Gt) (fun s1 _ => Dg.rec (motive := fun _ => Gt) (fun s2 _ => Dg.rec (motive := fun _ => Gt) (fun s3 _ => ⟨gtMid s3 s2 s1⟩) (dg (T2 AV) (Nat.div k 64))) (dg (T1 AV) (Nat.div k 8))) (dg (Option AV) k)) (Nat.ble k 511)
noncomputable def mkGt (k : Nat) : Gt :=
  Bool.rec (motive := fun _ => Gt) (mkGtM k) (Dg.rec (motive := fun _ => Gt) (fun s1 _ => Dg.rec (motive := fun _ => Gt) (fun s2 _ => ⟨gtLo s2 s1⟩) (dg (T1 AV) (Nat.div k 8))) (dg (Option AV) k)) (Nat.ble k 63)
noncomputable def ptLo (s2 : T2 AV → T1 AV) (u2 : T2 AV → T1 AV → T2 AV) (u1 : T1 AV → Option AV → T1 AV) (t : Tr AV) (v : AV) : Tr AV :=
  Tr.rec (motive := fun _ => Tr AV) (fun lo mid hi far => ⟨u2 lo (u1 (s2 lo) (some v)), mid, hi, far⟩) t
noncomputable def ptFar (k : Nat) (t : Tr AV) (v : AV) : Tr AV := t.put k (some v)
noncomputable def mkPtM (k : Nat) : Pt :=
  Bool.rec (motive := fun _ => Pt) ⟨ptFar k⟩ (Dg.rec (motive := fun _ => Pt) (fun _ u1 => Dg.rec (motive := fun _ => Pt) (fun s2 u2 => Dg.rec (motive := fun _ => Pt) (fun s3 u3 => ⟨ptMid s3 u3 s2 u2 u1⟩) (dg (T2 AV) (Nat.div k 64))) (dg (T1 AV) (Nat.div k 8))) (dg (Option AV) k)) (Nat.ble k 511)
noncomputable def mkPt (k : Nat) : Pt :=
  Bool.rec (motive := fun _ => Pt) (mkPtM k) (Dg.rec (motive := fun _ => Pt) (fun _ u1 => Dg.rec (motive := fun _ => Pt) (fun s2 u2 => ⟨ptLo s2 u2 u1⟩) (dg (T1 AV) (Nat.div k 8))) (dg (Option AV) k)) (Nat.ble k 63)
theorem mkGt_eq (k : Nat) (t : Tr AV) : (mkGt k).g t = t.get k := by
  cases h : Nat.ble k 63 with
  | true => unfold mkGt Tr.get; rw [h]; rfl
  | false =>
    unfold mkGt
    rw [h]
    show (mkGtM k).g t = _
    unfold mkGtM
    cases h2 : Nat.ble k 511 with
    | false => rfl
    | true => unfold Tr.get; rw [h, h2]; rfl
theorem mkPt_eq (k : Nat) (t : Tr AV) (v : AV) : (mkPt k).p t v = t.put k (some v) := by
  cases h : Nat.ble k 63 with
  | true => unfold mkPt Tr.put; rw [h]; rfl
  | false =>
    unfold mkPt
    rw [h]
    show (mkPtM k).p t v = _
    unfold mkPtM
    cases h2 : Nat.ble k 511 with
    | false => rfl
    | true => unfold Tr.put; rw [h, h2]; rfl

/-! ### Operands, destinations -/
inductive CE : Type where
  | tmp (g : Tr AV → Option AV)
  | val (v : AV)
  | none
noncomputable def ceOf (v : Option AV) : CE := Option.rec (motive := fun _ => CE) .none (fun v => .val v) v
noncomputable def mkCE (x : Operand) : CE :=
  Operand.rec (motive := fun _ => CE) (fun t => Gt.rec (motive := fun _ => CE) (fun g => .tmp g) (mkGt t)) (fun v => ceOf (ofV v)) (fun _ => .none) (fun f => .val (.fn f [] [])) x
noncomputable def ceGet (c : CE) (E : Tr AV) : Option AV := CE.rec (motive := fun _ => Option AV) (fun g => g E) (fun v => some v) .none c
theorem mkCE_eq (x : Operand) (E : Tr AV) : ceGet (mkCE x) E = ev E x := by
  cases x with
  | tmp t => show (mkGt t).g E = E.get t; exact mkGt_eq t E
  | const v =>
    show ceGet (ceOf (ofV v)) E = ofV v
    cases ofV v <;> rfl
  | global g => rfl
  | func f => rfl
inductive CW : Type where
  | no
  | put (p : Tr AV → AV → Tr AV)
  | bad
noncomputable def mkCW (nt : Nat) (dst : Option Tmp) : CW :=
  Option.rec (motive := fun _ => CW) .no (fun d => Bool.rec (motive := fun _ => CW) .bad (Pt.rec (motive := fun _ => CW) (fun p => .put p) (mkPt d)) (Nat.ble (Nat.succ d) nt)) dst
abbrev KT := Tr AV → Heap → OpsR
noncomputable def cwVal (w : CW) (stop ih : KT) (E : Tr AV) (H : Heap) (v : AV) (H' : Heap) : OpsR :=
  CW.rec (motive := fun _ => OpsR) (ih E H') (fun p => ih (p E v) H') (stop E H) w
noncomputable def stopK (l : List Oper) : KT := fun E H => .stop l E H
theorem cwVal_eq (nt : Nat) (o : Oper) (rest : List Oper) (ih : KT) (E : Tr AV) (H : Heap) (v : AV) (H' : Heap) : cwVal (mkCW nt o.dst) (stopK (o :: rest)) ih E H v H' = opsVal nt o rest ih E H v H' := by
  unfold opsVal mkCW
  cases o.dst with
  | none => rfl
  | some d =>
    dsimp only
    cases Nat.ble (Nat.succ d) nt with
    | false => rfl
    | true => show ih ((mkPt d).p E v) H' = ih (E.put d (some v)) H'; rw [mkPt_eq]
end Vx

/-! Rows of operations made ready ahead: the same as rows of operations. -/
namespace Vx
open Go

abbrev InsT := Program → Dec → KT → KT → Tr AV → Heap → OpsR
structure Ins : Type where
  f : InsT
noncomputable def iGen (w : CW) (op : Op) : InsT := fun P D stop ih E H =>
  OpR.rec (motive := fun _ => OpsR) (cwVal w stop ih E H) (fun _ _ => stop E H) (fun _ _ => stop E H) (fun _ => stop E H) (stop E H) (fun _ => stop E H) (stop E H) (opF op P D E H)
noncomputable def oVal (w : CW) (stop ih : KT) (E : Tr AV) (H : Heap) (v : Option AV) : OpsR :=
  Option.rec (motive := fun _ => OpsR) (stop E H) (fun v => cwVal w stop ih E H v H) v
noncomputable def iMoveT (w : CW) (g : Tr AV → Option AV) : InsT := fun _ _ stop ih E H => oVal w stop ih E H (g E)
noncomputable def iMoveC (w : CW) (v : AV) : InsT := fun _ _ stop ih E H => cwVal w stop ih E H v H
noncomputable def iMove (w : CW) (op : Op) (c : CE) : Ins := CE.rec (motive := fun _ => Ins) (fun g => ⟨iMoveT w g⟩) (fun v => ⟨iMoveC w v⟩) ⟨iGen w op⟩ c
noncomputable def pick2 (w : CW) (a b : CE) (stop ih : KT) (E : Tr AV) (H : Heap) (t : Bool) : OpsR :=
  Bool.rec (motive := fun _ => OpsR) (oVal w stop ih E H (ceGet b E)) (oVal w stop ih E H (ceGet a E)) t
noncomputable def pick1 (w : CW) (a b : CE) (stop ih : KT) (E : Tr AV) (H : Heap) (v : AV) : OpsR :=
  V1.rec (motive := fun _ => OpsR) (fun _ _ => stop E H) (pick2 w a b stop ih E H) (fun _ _ => stop E H) (stop E H) (stop E H) (view1 v)
noncomputable def iPick (w : CW) (c a b : CE) : InsT := fun _ _ stop ih E H => Option.rec (motive := fun _ => OpsR) (stop E H) (pick1 w a b stop ih E H) (ceGet c E)
noncomputable def iBin2 (P : Program) (D : Dec) (w : CW) (op : BinOp) (t : TypeId) (y : Operand) (stop ih : KT) (E : Tr AV) (H : Heap) (a : AV) (b : Option AV) : OpsR :=
  Option.rec (motive := fun _ => OpsR) (stop E H) (fun b => oVal w stop ih E H (binF1 P D op t y a b)) b
noncomputable def iBin (w : CW) (op : BinOp) (t : TypeId) (y : Operand) (ca cb : CE) : InsT := fun P D stop ih E H =>
  Option.rec (motive := fun _ => OpsR) (stop E H) (fun a => iBin2 P D w op t y stop ih E H a (ceGet cb E)) (ceGet ca E)
noncomputable def mkIns2 (w : CW) (op : Op) : Ins :=
  Op.rec (motive := fun _ => Ins) (fun x => iMove w op (mkCE x)) (fun x => iMove w op (mkCE x)) (fun c a b => ⟨iPick w (mkCE c) (mkCE a) (mkCE b)⟩) (fun _ => ⟨iGen w op⟩) (fun _ _ => ⟨iGen w op⟩) (fun _ _ => ⟨iGen w op⟩) (fun _ _ _ => ⟨iGen w op⟩) (fun _ _ _ _ => ⟨iGen w op⟩)
    (fun _ _ => ⟨iGen w op⟩) (fun _ _ _ => ⟨iGen w op⟩) (fun _ => ⟨iGen w op⟩) (fun _ => ⟨iGen w op⟩) (fun _ => ⟨iGen w op⟩) (fun bo t x y _ => ⟨iBin w bo t y (mkCE x) (mkCE y)⟩) (fun _ _ _ => ⟨iGen w op⟩) (fun _ _ _ => ⟨iGen w op⟩) (fun _ _ => ⟨iGen w op⟩) (fun _ _ => ⟨iGen w op⟩) (fun _ _ _ => ⟨iGen w op⟩)
    (fun _ _ => ⟨iGen w op⟩) (fun _ _ => ⟨iGen w op⟩) (fun _ _ _ => ⟨iGen w op⟩) (fun _ _ _ _ _ => ⟨iGen w op⟩) (fun _ _ _ => ⟨iGen w op⟩) (fun _ _ _ => ⟨iGen w op⟩) (fun _ _ _ => ⟨iGen w op⟩) (fun _ _ _ => ⟨iGen w op⟩) (fun _ _ _ _ => ⟨iGen w op⟩) (fun _ _ _ _ => ⟨iGen w op⟩) (fun _ _ _ => ⟨iGen w op⟩)
    (fun _ _ _ _ => ⟨iGen w op⟩) (fun _ _ => ⟨iGen w op⟩) (fun _ _ => ⟨iGen w op⟩) (fun _ => ⟨iGen w op⟩) (fun _ _ _ _ => ⟨iGen w op⟩) (fun _ _ => ⟨iGen w op⟩) (fun _ => ⟨iGen w op⟩) (fun _ => ⟨iGen w op⟩) (fun _ => ⟨iGen w op⟩) (fun _ => ⟨iGen w op⟩) (fun _ _ => ⟨iGen w op⟩) (fun _ _ _ => ⟨iGen w op⟩) (fun _ _ => ⟨iGen w op⟩) op
noncomputable def mkIns (nt : Nat) (o : Oper) : Ins := mkIns2 (mkCW nt o.dst) o.op
section
variable {P : Program} {D : Dec} {nt : Nat} {o : Oper} {rest : List Oper} {ih : KT} {E : Tr AV} {H : Heap}
theorem iGen_eq : iGen (mkCW nt o.dst) o.op P D (stopK (o :: rest)) ih E H = opsGo P D nt o rest ih E H := by
  unfold iGen opsGo
  cases opF o.op P D E H with
  | val v H' => exact cwVal_eq nt o rest ih E H v H'
  | _ => rfl
theorem go_val1 {op : Op} (hop : o.op = op) {v : Option AV} (h : opA P D E H op = val1 v H) : oVal (mkCW nt o.dst) (stopK (o :: rest)) ih E H v = opsGo P D nt o rest ih E H := by
  unfold opsGo
  rw [opF_eq, hop, h]
  cases v with
  | none => rfl
  | some u => exact cwVal_eq nt o rest ih E H u H
theorem mkIns_ok : (mkIns nt o).f P D (stopK (o :: rest)) ih E H = opsGo P D nt o rest ih E H := by
  unfold mkIns
  have gen := iGen_eq (P := P) (D := D) (nt := nt) (o := o) (rest := rest) (ih := ih) (E := E) (H := H)
  generalize hop : o.op = op at gen
  have move : ∀ x, opA P D E H op = val1 (ev E x) H → (iMove (mkCW nt o.dst) op (mkCE x)).f P D (stopK (o :: rest)) ih E H = opsGo P D nt o rest ih E H := fun x hx => by
    have he := mkCE_eq x E
    cases hc : mkCE x with
    | tmp g =>
      rw [hc] at he
      have he : g E = ev E x := he
      show oVal (mkCW nt o.dst) (stopK (o :: rest)) ih E H (g E) = _
      exact go_val1 hop (by rw [hx, he])
    | val v =>
      rw [hc] at he
      have he : some v = ev E x := he
      show cwVal (mkCW nt o.dst) (stopK (o :: rest)) ih E H v H = _
      exact go_val1 (v := some v) hop (by rw [hx, ← he])
    | none => exact gen
  cases op with
  | move x => exact move x rfl
  | assign x => exact move x rfl
  | pick c a b =>
    show Option.rec (motive := fun _ => OpsR) (stopK (o :: rest) E H) (pick1 (mkCW nt o.dst) (mkCE a) (mkCE b) (stopK (o :: rest)) ih E H) (ceGet (mkCE c) E) = _
    rw [mkCE_eq]
    have bad : opA P D E H (.pick c a b) = .bad → stopK (o :: rest) E H = opsGo P D nt o rest ih E H := fun hb => by
      unfold opsGo; rw [opF_eq, hop, hb]; rfl
    cases hc : ev E c with
    | none => exact bad (by simp [opA, hc])
    | some v =>
      show pick1 (mkCW nt o.dst) (mkCE a) (mkCE b) (stopK (o :: rest)) ih E H v = _
      unfold pick1
      cases v with
      | bool t =>
        show pick2 (mkCW nt o.dst) (mkCE a) (mkCE b) (stopK (o :: rest)) ih E H t = _
        unfold pick2
        cases t with
        | true => show oVal _ _ ih E H (ceGet (mkCE a) E) = _; rw [mkCE_eq]; exact go_val1 hop (by simp [opA, hc])
        | false => show oVal _ _ ih E H (ceGet (mkCE b) E) = _; rw [mkCE_eq]; exact go_val1 hop (by simp [opA, hc])
      | _ => exact bad (by simp [opA, hc])
  | binOp bo t x y yt =>
    show Option.rec (motive := fun _ => OpsR) (stopK (o :: rest) E H) (fun a => iBin2 P D (mkCW nt o.dst) bo t y (stopK (o :: rest)) ih E H a (ceGet (mkCE y) E)) (ceGet (mkCE x) E) = _
    rw [mkCE_eq, mkCE_eq]
    have bad : opA P D E H (.binOp bo t x y yt) = .bad → stopK (o :: rest) E H = opsGo P D nt o rest ih E H := fun hb => by
      unfold opsGo; rw [opF_eq, hop, hb]; rfl
    cases hx : ev E x with
    | none => exact bad (by simp [opA, hx])
    | some a =>
      show iBin2 P D (mkCW nt o.dst) bo t y (stopK (o :: rest)) ih E H a (ev E y) = _
      unfold iBin2
      cases hy : ev E y with
      | none => exact bad (by simp [opA, hx, hy])
      | some b =>
        show oVal (mkCW nt o.dst) (stopK (o :: rest)) ih E H (binF1 P D bo t y a b) = _
        rw [binF1_eq]
        exact go_val1 hop (by simp [opA, hx, hy])
  | _ => exact gen
end

/-! ### Guards; rows -/
inductive CG : Type where
  | always
  | on (g : Tr AV → Option AV) (want : Bool)
  | bad
noncomputable def mkCG (all : List Oper) (g : Option (Nat × Bool)) : CG :=
  Option.rec (motive := fun _ => CG) .always (fun p => Prod.rec (motive := fun _ => CG) (fun j want => Option.rec (motive := fun _ => CG) .bad (fun oj => Option.rec (motive := fun _ => CG) .bad (fun d => Gt.rec (motive := fun _ => CG) (fun g => .on g want) (mkGt d)) oj.dst) (nth all j)) p) g
noncomputable def cOn2 (P : Program) (D : Dec) (l : List Oper) (w : CW) (ins : InsT) (ih : KT) (E : Tr AV) (H : Heap) (b : Bool) : OpsR :=
  Bool.rec (motive := fun _ => OpsR) (cwVal w (stopK l) ih E H (.tup []) H) (ins P D (stopK l) ih E H) b
noncomputable def cOn (P : Program) (D : Dec) (l : List Oper) (w : CW) (ins : InsT) (ih : KT) (E : Tr AV) (H : Heap) (g : Tr AV → Option AV) (want : Bool) : OpsR :=
  Option.rec (motive := fun _ => OpsR) (.stop l E H) (cOn2 P D l w ins ih E H) (guard3 want (g E))
noncomputable def cStep (P : Program) (D : Dec) (l : List Oper) (cg : CG) (w : CW) (ins : InsT) (ih : KT) (E : Tr AV) (H : Heap) : OpsR :=
  CG.rec (motive := fun _ => OpsR) (ins P D (stopK l) ih E H) (cOn P D l w ins ih E H) (.stop l E H) cg
inductive CL : Type where
  | nil
  | cons (l : List Oper) (cg : CG) (w : CW) (ins : Ins) (rest : CL)
noncomputable def compL (nt : Nat) (all : List Oper) (l : List Oper) : CL :=
  List.rec (motive := fun _ => CL) .nil (fun o r ih => .cons (o :: r) (mkCG all o.guard) (mkCW nt o.dst) (mkIns nt o) ih) l
noncomputable def cNode (P : Program) (D : Dec) (l : List Oper) (cg : CG) (w : CW) (ins : Ins) (ih : KT) (E : Tr AV) (H : Heap) : OpsR :=
  Ins.rec (motive := fun _ => OpsR) (fun f => cStep P D l cg w f ih E H) ins
noncomputable def crun (P : Program) (D : Dec) (c : CL) : KT :=
  CL.rec (motive := fun _ => KT) .done (fun l cg w ins _ ih => cNode P D l cg w ins ih) c
theorem crun_eq (P : Program) (D : Dec) (nt : Nat) (all : List Oper) : ∀ (l : List Oper), crun P D (compL nt all l) = opsF P D nt all l
  | [] => rfl
  | o :: r => by
    have ih := crun_eq P D nt all r
    funext E H
    show cNode P D (o :: r) (mkCG all o.guard) (mkCW nt o.dst) (mkIns nt o) (crun P D (compL nt all r)) E H = opsCons P D nt all o r (opsF P D nt all r) E H
    rw [ih]
    have hi : ∀ ih, (mkIns nt o).f P D (stopK (o :: r)) ih E H = opsGo P D nt o r ih E H := fun ih => mkIns_ok
    show cStep P D (o :: r) (mkCG all o.guard) (mkCW nt o.dst) (mkIns nt o).f (opsF P D nt all r) E H = _
    unfold cStep opsCons mkCG guardF
    cases o.guard with
    | none => exact hi _
    | some p =>
      obtain ⟨j, want⟩ := p
      dsimp only
      cases nth all j with
      | none => rfl
      | some oj =>
        dsimp only
        show CG.rec (motive := fun _ => OpsR) _ _ _ (Option.rec (motive := fun _ => CG) .bad (fun d => Gt.rec (motive := fun _ => CG) (fun g => .on g want) (mkGt d)) oj.dst) = Option.rec (motive := fun _ => OpsR) _ _ (Option.rec (motive := fun _ => Option Bool) none (fun d => guard3 want (E.get d)) oj.dst)
        cases oj.dst with
        | none => rfl
        | some d =>
          show cOn P D (o :: r) (mkCW nt o.dst) (mkIns nt o).f (opsF P D nt all r) E H (mkGt d).g want = Option.rec (motive := fun _ => OpsR) _ _ (guard3 want (E.get d))
          unfold cOn
          rw [mkGt_eq]
          cases guard3 want (E.get d) with
          | none => rfl
          | some b =>
            cases b with
            | true => exact hi _
            | false => exact cwVal_eq nt o r _ E H _ H
end Vx

/-! The quick machine: calls, returns, tests. -/
namespace Vx
open Go
/-! ### The functions, in rows -/
noncomputable def enterF (f : FuncId) (args : List AV) (df : Bool) (F : Option Func) : Option AF :=
  Option.rec (motive := fun _ => Option AF) none (fun F => Option.rec (motive := fun _ => Option AF) none (fun c => Bool.rec (motive := fun _ => Option AF) none (some ⟨f, df, none, F.ntmps, ofList args 0 .e, [.code c], [], .run⟩) (Nat.ble args.length F.ntmps)) F.body) F
noncomputable def enterT (P : Program) (f : FuncId) (args : List AV) (df : Bool) : Option AF := enterF f args df (fnT P f)
theorem enterT_eq (P : Program) (f : FuncId) (args : List AV) (df : Bool) : enterT P f args df = enterA P f args df := by
  unfold enterT enterA
  cases fnT P f with
  | none => rfl
  | some F =>
    show Option.rec (motive := fun _ => Option AF) none (fun c => Bool.rec (motive := fun _ => Option AF) none (some ⟨f, df, none, F.ntmps, ofList args 0 .e, [.code c], [], .run⟩) (Nat.ble args.length F.ntmps)) F.body = _
    dsimp only
    cases F.body with
    | none => rfl
    | some c =>
      dsimp only
      cases Nat.ble args.length F.ntmps <;> rfl
noncomputable def res1 (l : List AV) : AV :=
  match l with
  | [v] => v
  | l => .tup l
noncomputable def resultF (P : Program) (E : Tr AV) (H : Heap) (F : Option Func) : Option AV :=
  Option.rec (motive := fun _ => Option AV) none (fun F => Option.rec (motive := fun _ => Option AV) none (fun l => some (res1 l)) (resA P E H F.results.toList)) F
noncomputable def resultT (P : Program) (f : FuncId) (E : Tr AV) (H : Heap) : Option AV := resultF P E H (fnT P f)
theorem resultT_eq (P : Program) (f : FuncId) (E : Tr AV) (H : Heap) : resultT P f E H = resultA P f E H := by
  unfold resultT resultA
  cases fnT P f with
  | none => rfl
  | some F =>
    show Option.rec (motive := fun _ => Option AV) none (fun l => some (res1 l)) (resA P E H F.results.toList) = _
    dsimp only
    cases resA P E H F.results.toList with
    | none => rfl
    | some l =>
      show some (res1 l) = _
      unfold res1
      match l with
      | [] => rfl
      | [_] => rfl
      | _ :: _ :: _ => rfl
section
variable (P : Program) (D : Dec) (rg : Rg)
/-! ### Calls -/
noncomputable def pushQ (x : FX) (all : Array Oper) (l : List Oper) (k : List AItem) (E : Tr AV) (H : Heap) (g : AF) : FR' :=
  AF.rec (motive := fun _ => FR') (fun fn df ro nt E' todo dfs mode => FX.rec (motive := fun _ => FR') (fun xfn xdf xro xnt xdfs xcs => .next (normR fn df ro nt E' todo dfs mode (⟨xfn, xdf, xro, xnt, E, .inOps all l :: k, xdfs, .run⟩ :: xcs) H)) x) g
noncomputable def enterQ (x : FX) (all : Array Oper) (l : List Oper) (k : List AItem) (E : Tr AV) (H : Heap) (g : Option AF) : FR' :=
  Option.rec (motive := fun _ => FR') (.fin none) (pushQ x all l k E H) g
noncomputable def hpQ (x : FX) (all : Array Oper) (l : List Oper) (k : List AItem) (E : Tr AV) (H : Heap) (f : FuncId) (args : List AV) (p : Option (AV × Heap)) : FR' :=
  Option.rec (motive := fun _ => FR') (enterQ x all l k E H (enterT P f args false)) (fun _ => slowF P D rg x E (.inOps all l :: k) H) p
noncomputable def plugQ (x : FX) (all : Array Oper) (l : List Oper) (k : List AItem) (E : Tr AV) (H : Heap) (f : FuncId) (args : List AV) (p : Option AV) : FR' :=
  Option.rec (motive := fun _ => FR') (hpQ P D rg x all l k E H f args (D.hp f args H)) (fun _ => slowF P D rg x E (.inOps all l :: k) H) p
noncomputable def callQ (x : FX) (all : Array Oper) (l : List Oper) (k : List AItem) (E : Tr AV) (H : Heap) (r : OpR) : FR' :=
  OpR.rec (motive := fun _ => FR') (fun _ _ => slowF P D rg x E (.inOps all l :: k) H) (fun f args => plugQ P D rg x all l k E H f args (plugA D f args)) (fun _ _ => slowF P D rg x E (.inOps all l :: k) H) (fun _ => slowF P D rg x E (.inOps all l :: k) H)
    (slowF P D rg x E (.inOps all l :: k) H) (fun _ => slowF P D rg x E (.inOps all l :: k) H) (slowF P D rg x E (.inOps all l :: k) H) r
noncomputable def wantQ (x : FX) (all : Array Oper) (l : List Oper) (k : List AItem) (E : Tr AV) (H : Heap) (op : Op) (b : Option Bool) : FR' :=
  Option.rec (motive := fun _ => FR') (slowF P D rg x E (.inOps all l :: k) H) (fun b => Bool.rec (motive := fun _ => FR') (slowF P D rg x E (.inOps all l :: k) H) (callQ P D rg x all l k E H (opF op P D E H)) b) b
noncomputable def stopQ (x : FX) (all : Array Oper) (k : List AItem) (l : List Oper) (E : Tr AV) (H : Heap) : FR' :=
  List.rec (motive := fun _ => FR') (slowF P D rg x E (.inOps all l :: k) H) (fun o _ _ => wantQ P D rg x all l k E H o.op (guardF all.toList E o.guard)) l
noncomputable def opsEndQ (all : Array Oper) (x : FX) (k : List AItem) (r : OpsR) : FR' :=
  OpsR.rec (motive := fun _ => FR') (fun E H => .next (.fast x E k H)) (fun l E H => stopQ P D rg x all k l E H) r
theorem stopQ_eq (x : FX) (all : Array Oper) (k : List AItem) (l : List Oper) (E : Tr AV) (H : Heap) : stopQ P D rg x all k l E H = slowF P D rg x E (.inOps all l :: k) H := by
  cases l with
  | nil => rfl
  | cons o rest =>
    show wantQ P D rg x all (o :: rest) k E H o.op (guardF all.toList E o.guard) = _
    rw [guardF_eq]
    cases hw : wantedA all E o with
    | none => rfl
    | some b =>
      cases b with
      | false => rfl
      | true =>
        show callQ P D rg x all (o :: rest) k E H (opF o.op P D E H) = _
        rw [opF_eq]
        cases ho : opA P D E H o.op with
        | call f args =>
          show plugQ P D rg x all (o :: rest) k E H f args (plugA D f args) = _
          cases hp : plugA D f args with
          | some v => rfl
          | none =>
            show hpQ P D rg x all (o :: rest) k E H f args (D.hp f args H) = _
            cases hq : D.hp f args H with
            | some v => rfl
            | none =>
              show enterQ x all (o :: rest) k E H (enterT P f args false) = ofSR (opStep P D x.fn x.df x.ro x.nt E all o rest k x.dfs x.cs H)
              unfold opStep
              rw [enterT_eq]
              simp only [hw, ho, hp, hq]
              cases enterA P f args false with
              | none => rfl
              | some g => cases g; rfl
        | _ => rfl
theorem opsEndQ_eq (all : Array Oper) (x : FX) (k : List AItem) (r : OpsR) : opsEndQ P D rg all x k r = opsEnd P D rg all x k r := by
  cases r with
  | done E H => rfl
  | stop l E H => exact stopQ_eq P D rg x all k l E H
/-! ### Returns -/
noncomputable def retQ (x : FX) (E : Tr AV) (k : List AItem) (H : Heap) : FR' :=
  FX.rec (motive := fun _ => FR') (fun fn df ro nt dfs cs => Option.rec (motive := fun _ => FR') (.next (.gen ⟨⟨fn, df, none, nt, E, k, dfs, .ret⟩, cs, H⟩)) (fun _ => slowF P D rg ⟨fn, df, ro, nt, dfs, cs⟩ E (.code .ret :: k) H) ro) x
theorem retQ_eq (x : FX) (E : Tr AV) (k : List AItem) (H : Heap) : retQ P D rg x E k H = slowF P D rg x E (.code .ret :: k) H := by
  obtain ⟨fn, df, ro, nt, dfs, cs⟩ := x
  cases ro <;> rfl
noncomputable def putQ (x : FX) (all : Array Oper) (rest : List Oper) (k : List AItem) (E : Tr AV) (H : Heap) (v : AV) (w : CW) : FR' :=
  CW.rec (motive := fun _ => FR') (.next (.fast x E (.inOps all rest :: k) H)) (fun p => .next (.fast x (p E v) (.inOps all rest :: k) H)) (.fin none) w
noncomputable def fOps (nt : Nat) (x : FX) (k : List AItem) (E : Tr AV) (H : Heap) (v : AV) (all : Array Oper) (l : List Oper) : FR' :=
  List.rec (motive := fun _ => FR') (.fin none) (fun o rest _ => putQ x all rest k E H v (mkCW nt o.dst)) l
noncomputable def fItem (nt : Nat) (x : FX) (k : List AItem) (E : Tr AV) (H : Heap) (v : AV) (it : AItem) : FR' :=
  AItem.rec (motive := fun _ => FR') (fun _ => .fin none) (fun _ => .fin none) (fun _ => .fin none) (fun _ => .fin none) (fOps nt x k E H v) (fun l => .next (.fast x E (.endRF l :: k) H)) (fun _ => .fin none) (.fin none) it
noncomputable def fRun (nt : Nat) (x : FX) (todo : List AItem) (E : Tr AV) (H : Heap) (v : AV) : FR' :=
  List.rec (motive := fun _ => FR') (.fin none) (fun it k _ => fItem nt x k E H v it) todo
noncomputable def finQ (c : AF) (v : AV) (cs : List AF) (H : Heap) : FR' :=
  AF.rec (motive := fun _ => FR') (fun fn df ro nt E todo dfs mode => AMode.rec (motive := fun _ => FR') (fRun nt ⟨fn, df, ro, nt, dfs, cs⟩ todo E H v) (.fin none) (fun _ => .fin none) mode) c
theorem finQ_eq (c : AF) (v : AV) (cs : List AF) (H : Heap) : finQ c v cs H = (match finishA c v with
    | some c' => .next (norm ⟨c', cs, H⟩)
    | none => .fin none) := by
  obtain ⟨fn, df, ro, nt, E, todo, dfs, mode⟩ := c
  unfold finishA
  cases mode with
  | run =>
    show fRun nt ⟨fn, df, ro, nt, dfs, cs⟩ todo E H v = _
    cases todo with
    | nil => rfl
    | cons it k =>
      cases it with
      | inOps all l =>
        cases l with
        | nil => rfl
        | cons o rest =>
          show putQ ⟨fn, df, ro, nt, dfs, cs⟩ all rest k E H v (mkCW nt o.dst) = _
          unfold mkCW putA
          dsimp only
          cases o.dst with
          | none => rfl
          | some d =>
            dsimp only
            cases Nat.ble (Nat.succ d) nt with
            | false => rfl
            | true =>
              show FR'.next (.fast ⟨fn, df, ro, nt, dfs, cs⟩ ((mkPt d).p E v) (.inOps all rest :: k) H) = _
              rw [mkPt_eq]; rfl
      | _ => rfl
  | _ => rfl
noncomputable def outRet (_fn : FuncId) (_E : Tr AV) (H : Heap) (c : AF) (cs : List AF) (r : Option AV) : FR' :=
  Option.rec (motive := fun _ => FR') (.fin none) (fun v => finQ c v cs H) r
noncomputable def outGo (fn : FuncId) (df : Bool) (ro : Option Nat) (nt : Nat) (E : Tr AV) (todo : List AItem) (cs : List AF) (H : Heap) : FR' :=
  Bool.rec (motive := fun _ => FR') (List.rec (motive := fun _ => FR') (ofSR (astep P D rg ⟨⟨fn, df, ro, nt, E, todo, [], .ret⟩, cs, H⟩)) (fun c cs' _ => outRet fn E H c cs' (resultT P fn E H)) cs) (ofSR (astep P D rg ⟨⟨fn, df, ro, nt, E, todo, [], .ret⟩, cs, H⟩)) df
noncomputable def outM (fn : FuncId) (df : Bool) (ro : Option Nat) (nt : Nat) (E : Tr AV) (todo : List AItem) (dfs : List ADef) (mode : AMode) (cs : List AF) (H : Heap) : FR' :=
  AMode.rec (motive := fun _ => FR') (ofSR (astep P D rg ⟨⟨fn, df, ro, nt, E, todo, dfs, .run⟩, cs, H⟩)) (List.rec (motive := fun _ => FR') (outGo P D rg fn df ro nt E todo cs H) (fun d ds _ => ofSR (astep P D rg ⟨⟨fn, df, ro, nt, E, todo, d :: ds, .ret⟩, cs, H⟩)) dfs)
    (fun ch => ofSR (astep P D rg ⟨⟨fn, df, ro, nt, E, todo, dfs, .pan ch⟩, cs, H⟩)) mode
noncomputable def outQ (m : AM) : FR' :=
  AM.rec (motive := fun _ => FR') (fun fr cs H => AF.rec (motive := fun _ => FR') (fun fn df ro nt E todo dfs mode => outM P D rg fn df ro nt E todo dfs mode cs H) fr) m
theorem outQ_eq (m : AM) : outQ P D rg m = ofSR (astep P D rg m) := by
  obtain ⟨⟨fn, df, ro, nt, E, todo, dfs, mode⟩, cs, H⟩ := m
  cases mode with
  | ret =>
    cases dfs with
    | cons d ds => rfl
    | nil =>
      show outGo P D rg fn df ro nt E todo cs H = _
      cases df with
      | true => rfl
      | false =>
        cases cs with
        | nil => rfl
        | cons c cs' =>
          show outRet fn E H c cs' (resultT P fn E H) = ofSR (outStep P fn false ro nt E todo [] .ret (c :: cs') H)
          rw [resultT_eq]
          unfold outStep
          dsimp only
          cases resultA P fn E H with
          | none => rfl
          | some v =>
            show finQ c v cs' H = _
            rw [finQ_eq]
            dsimp only
            cases finishA c v <;> rfl
  | _ => rfl
end
end Vx
