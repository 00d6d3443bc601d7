/-
  Regions that draw their order: one operation in any order; 'drawA' is right.
-/
import Derived.Test.YtmgejgbomglegaaGreatDoorVx21
namespace Vx
open Go

theorem least (p : Nat → Prop) (c : Nat) : ∀ i, (∃ e, c ≤ e ∧ e < i ∧ p e) → ∃ e, c ≤ e ∧ e < i ∧ p e ∧ ∀ e', c ≤ e' → e' < e → ¬ p e'
  | 0, ⟨e, _, h, _⟩ => by omega
  | i + 1, ⟨e, h1, h2, h3⟩ => by
    by_cases ex : ∃ e, c ≤ e ∧ e < i ∧ p e
    · obtain ⟨e', q1, q2, q3, q4⟩ := least p c i ex
      exact ⟨e', q1, by omega, q3, q4⟩
    · exact ⟨e, h1, h2, h3, fun e' h4 h5 h6 => ex ⟨e', h4, by omega, h6⟩⟩
theorem sameLoad_eq {P : Program} {S : Heap} {t : TypeId} {ad v : AV} (h : sameLoad P S t ad v = true) : loadA P S t ad = some v := by
  unfold sameLoad at h
  split at h
  · rename_i u hu; rw [hu, avEq_eq u v h]
  · cases h
theorem Over.exist {K : Nat → Kd} {base c : Nat} {cur : Heap} : ∀ (L : List Nat), ∃ Hc, Over K base (fun j => j ∈ L ∧ c ≤ j) cur Hc
  | [] => ⟨cur, rfl, fun i o h => by simp at h, fun _ _ => rfl⟩
  | i :: L => by
    obtain ⟨Hc, h⟩ := Over.exist (K := K) (base := base) (c := c) (cur := cur) L
    by_cases e : c ≤ i ∧ ∃ o, K i = .mk o
    · obtain ⟨h1, o, h2⟩ := e
      refine ⟨_, (h.put h2).cong fun j oj _ => ?_⟩
      simp only [List.mem_cons]
      constructor
      · rintro (⟨q1, q2⟩ | rfl)
        · exact ⟨.inr q1, q2⟩
        · exact ⟨.inl rfl, h1⟩
      · rintro ⟨rfl | q1, q2⟩
        · exact .inr rfl
        · exact .inl ⟨q1, q2⟩
    · refine ⟨Hc, h.cong fun j oj hj => ?_⟩
      simp only [List.mem_cons]
      constructor
      · rintro ⟨q1, q2⟩; exact ⟨.inr q1, q2⟩
      · rintro ⟨rfl | q1, q2⟩
        · exact absurd ⟨q2, oj, hj⟩ e
        · exact ⟨q1, q2⟩
theorem GR.weak {G G' : Gd} {μ : Mu} {ρ : Nat → Int} {H : Heap} {w : World} (h : GR G' μ ρ H w) (hb : ∀ b, G.blk b → G'.blk b) (hi : ∀ k, G.ids k → G'.ids k) : GR G μ ρ H w :=
  ⟨fun k o hk => let ⟨b, n, x, h1, h2, h3, h4⟩ := h.obj k o hk; ⟨b, n, x, h1, fun hg => h2 (hb b hg), h3, h4⟩, h.inj, h.dom, fun b hg => h.glt b (hb b hg), fun k hk => h.rid k (hi k hk)⟩

section
variable {P : Program} {D : Dec} {rec : Rec} {all : Array Oper} {mt : Tr Nat} {base nt : Nat} {T : Nat → TS} {K : Nat → Kd} {m : Nat} {ρ : Nat → Int}
/-- What is to be left alone while L has been gone over. -/
def GdL (G : Gd) (base n : Nat) (L : List Nat) : Gd := ⟨G.blk, fun k => G.ids k ∨ ∃ i, i < n ∧ i ∉ L ∧ k = base + i⟩
variable (h : Txt P D rec all mt base nt T K m) {G : Gd} {μ0 μ : Mu} {w0 w : World} {L : List Nat} {c : Nat} {a : Act} {b : Frame} {k : List Item} {cs : List Frame} {l : List Nat} {i : Nat} {o : Oper}
include h
theorem Inv.load (hI : Inv T K all m base nt ρ G μ0 w0 L c a w μ) (ho : all[i]? = some o) (hi : i < m) (hL : i ∉ L) (he : ∀ e ∈ o.after.toList, bindsA e = true → e.on ∈ L) {t : TypeId} {ad v : AV} (hk : K i = .load t ad v)
    (hl : loadA P (T i).cur t ad = some v) (hs : snapsOK P t ad v (og (mt.get i) 0) (T i).sn = true) : loadA P (T c).cur t ad = some v := by
  rcases Nat.lt_or_ge i c with h1 | h1
  · rcases hI.cut with h2 | ⟨e, rfl, hke, heL⟩
    · omega
    · have hne : e ≠ i := fun e1 => by subst e1; rw [hk] at hke; cases hke
      have hie : i < e := by omega
      obtain ⟨oe, hoe, hst⟩ := h.at (j := e) (hI.lt e heL)
      rw [hke] at hst
      generalize hT : T (e + 1) = s' at hst ⊢
      cases hst with
      | eff _ _ _ hld _ =>
      refine sameLoad_eq (h.loads (Nat.le_of_lt (hI.lt e heL)) hld hie hk ?_)
      cases hb : bitA (og (mt.get e) 0) i with
      | false => rfl
      | true => exact absurd (h.plan.closed hI.clo e oe hoe (hI.clo e heL oe hoe) i hb) hL
  · by_cases ex : ∃ e, c ≤ e ∧ e < i ∧ K e = .eff
    · obtain ⟨e, q1, q2, q3, q4⟩ := least (fun e => K e = .eff) c i ex
      rw [← h.cur q1 (by omega) q4]
      refine sameLoad_eq (h.snaps (Nat.le_of_lt hi) hs e q2 q3 fun e' r1 r2 r3 => ?_)
      cases hb : bitA (og (mt.get i) 0) e' with
      | false => rfl
      | true =>
        have := hI.eff e' (h.plan.closed hI.clo i o ho he e' hb) r3
        omega
    · rw [← h.cur h1 (Nat.le_of_lt hi) fun e r1 r2 r3 => ex ⟨e, r1, r2, r3⟩]
      exact hl
omit h in
theorem clo_cons (hclo : ∀ i ∈ L, ∀ o, all[i]? = some o → ∀ e ∈ o.after.toList, bindsA e = true → e.on ∈ L) (ho : all[i]? = some o) (he : ∀ e ∈ o.after.toList, bindsA e = true → e.on ∈ L) :
    ∀ j ∈ i :: L, ∀ o, all[j]? = some o → ∀ e ∈ o.after.toList, bindsA e = true → e.on ∈ i :: L := fun j hj o' ho' e hee hb => by
  rcases List.mem_cons.1 hj with rfl | hj
  · rw [ho] at ho'; cases ho'; exact List.mem_cons_of_mem _ (he e hee hb)
  · exact List.mem_cons_of_mem _ (hclo j hj o' ho' e hee hb)
/-- One more has been gone over. -/
theorem Inv.grow (hI : Inv T K all m base nt ρ G μ0 w0 L c a w μ) (ho : all[i]? = some o) (hi : i < m) (he : ∀ e ∈ o.after.toList, bindsA e = true → e.on ∈ L) {v : AV} {v' : Value} {w' : World} {μ' : Mu}
    (hp : putA nt (T i).E o.dst v = some (T (i + 1)).E) (hm : Mu.le μ μ') (hv : VR μ' ρ v v') (hF : Fr G w w') {c' : Nat} (hc : c' ≤ m) (hcut : c' = 0 ∨ ∃ e, c' = e + 1 ∧ K e = .eff ∧ e ∈ i :: L) (heff : ∀ e ∈ i :: L, K e = .eff → e < c')
    (hahead : ∀ j, j < c' → (K j = .eff ∨ ∃ o, K j = .mk o) → j ∈ i :: L) (hH : ∃ Hc, Over K base (fun j => j ∈ i :: L ∧ c' ≤ j) (T c').cur Hc ∧ GR (GdL G base all.size (i :: L)) μ' ρ Hc w') :
    (a.put o.dst v').defers = a.defers ∧ Inv T K all m base nt ρ G μ0 w0 (i :: L) c' (a.put o.dst v') w' μ' := by
  obtain ⟨EL, e1, e2⟩ := hI.E
  obtain ⟨EL', hp'⟩ := putA_some (E2 := EL) hp
  obtain ⟨p1, p2⟩ := put_ok (a := a) hp' (e2.mono hm) hv
  exact ⟨p2, fun j hj => (List.mem_cons.1 hj).elim (fun e => e ▸ hi) (hI.lt j), clo_cons hI.clo ho he, hc, hcut, heff, hahead, ⟨EL', e1.put h ho hi hp hp', p1⟩, hH, Mu.le_trans hI.mu hm, hI.fr.trans hF⟩
/-- One more has been gone over, that has no effect. -/
theorem Inv.mild (hI : Inv T K all m base nt ρ G μ0 w0 L c a w μ) (ho : all[i]? = some o) (hi : i < m) (he : ∀ e ∈ o.after.toList, bindsA e = true → e.on ∈ L) {v : AV} {v' : Value} {w' : World} {μ' : Mu}
    (hp : putA nt (T i).E o.dst v = some (T (i + 1)).E) (hm : Mu.le μ μ') (hv : VR μ' ρ v v') (hF : Fr G w w') (hk : K i ≠ .eff)
    (hH : ∃ Hc, Over K base (fun j => j ∈ i :: L ∧ c ≤ j) (T c).cur Hc ∧ GR (GdL G base all.size (i :: L)) μ' ρ Hc w') :
    (a.put o.dst v').defers = a.defers ∧ Inv T K all m base nt ρ G μ0 w0 (i :: L) c (a.put o.dst v') w' μ' := by
  refine hI.grow h ho hi he hp hm hv hF hI.cm ?_ (fun e heL hke => ?_) (fun j hj hkj => List.mem_cons_of_mem _ (hI.ahead j hj hkj)) hH
  · rcases hI.cut with h1 | ⟨e, h1, h2, h3⟩
    · exact .inl h1
    · exact .inr ⟨e, h1, h2, List.mem_cons_of_mem _ h3⟩
  · rcases List.mem_cons.1 heL with rfl | heL
    · exact absurd hke hk
    · exact hI.eff e heL hke
/-- An effect, and what it does not see. -/
theorem Inv.around (hI : Inv T K all m base nt ρ G μ0 w0 L c a w μ) (hclr : ∀ j o, c ≤ j → j < m → K j = .mk o → (T c).cur.tr.get (base + j) = none) (hi : i ≤ m) (hL : i ∉ L) (hci : c ≤ i)
    (hmk : ∀ j, j < i → (K j = .eff ∨ ∃ o, K j = .mk o) → j ∈ L) (hno : ∀ e, c ≤ e → e < i → K e ≠ .eff) :
    ∃ G' : Gd, (∀ b, G.blk b → G'.blk b) ∧ G'.ids = (GdL G base all.size L).ids ∧ GR G' μ ρ (T i).H w ∧
      (∀ j oj, j ∈ L → i < j → K j = .mk oj → ∀ b n, μ (base + j) = some (b, n) → G'.blk b) ∧
      (∀ μ' H' w', Mu.le μ μ' → GR G' μ' ρ H' w' → Fr G' w w' → ∀ Hc2, Over K base (fun j => j ∈ L ∧ i < j) H' Hc2 → GR (GdL G base all.size L) μ' ρ Hc2 w') ∧
      (∀ μ' H' w', Mu.le μ μ' → GR G' μ' ρ H' w' → ∀ j oj, i < j → j < m → K j = .mk oj → H'.tr.get (base + j) = none) := by
  obtain ⟨Hc, hO, hG⟩ := hI.H
  have hT := h.heap (hI.cut.imp id fun ⟨e, h1, h2, _⟩ => ⟨e, h1, h2⟩) hci hi hno
  let Q : Nat → Prop := fun k => ∃ j oj, j ∈ L ∧ i < j ∧ K j = .mk oj ∧ k = base + j
  have hnone : ∀ j oj, i < j → j < m → K j = .mk oj → (T i).H.tr.get (base + j) = none := fun j oj h1 h2 h3 => by
    rw [hT.old (base + j) fun j' o' hj' _ e => by omega]
    exact hclr j oj (by omega) h2 h3
  have hsub : ∀ k o, (T i).H.tr.get k = some o → Hc.tr.get k = some o := fun k o hk => by
    by_cases ex : ∃ j oj, (j ∈ L ∧ c ≤ j) ∧ K j = .mk oj ∧ k = base + j
    · obtain ⟨j, oj, ⟨h1, h2⟩, h3, rfl⟩ := ex
      rw [hO.made j oj ⟨h1, h2⟩ h3]
      rcases Nat.lt_or_ge j i with h4 | h4
      · rw [hT.made j oj ⟨h2, h4⟩ h3] at hk; exact hk
      · have hne : j ≠ i := fun e => hL (e ▸ h1)
        rw [hnone j oj (by omega) (hI.lt j h1) h3] at hk; cases hk
    · rw [hO.old k fun j oj h1 h2 h3 => ex ⟨j, oj, h1, h2, h3⟩]
      rw [← hT.old k fun j oj h1 h2 h3 => ex ⟨j, oj, ⟨hmk j h1.2 (.inr ⟨oj, h2⟩), h1.1⟩, h2, h3⟩]
      exact hk
  have hG1 : GR (GdL G base all.size L) μ ρ (T i).H w := GR.like (G := GdL G base all.size L) hG hsub (by rw [hO.next, hT.next]; exact Nat.le_refl _)
  have hQget : ∀ k, Q k → ∃ o, Hc.tr.get k = some o := fun k ⟨j, oj, h1, h2, h3, h4⟩ => ⟨oj, by rw [h4]; exact hO.made j oj ⟨h1, by omega⟩ h3⟩
  refine ⟨⟨fun b => G.blk b ∨ ∃ k n, Q k ∧ μ k = some (b, n), (GdL G base all.size L).ids⟩, fun b hb => .inl hb, rfl, ?_, fun j oj h1 h2 h3 b n hb => .inr ⟨_, n, ⟨j, oj, h1, h2, h3, rfl⟩, hb⟩, fun μ' H' w' hm hG' hF Hc2 hO2 => ?_, fun μ' H' w' hm hG' j oj h1 h2 h3 => ?_⟩
  · refine hG1.guard (fun b => ∃ k n, Q k ∧ μ k = some (b, n)) (fun b ⟨k, n, _, hk⟩ => (hG1.dom k b n hk).2) fun k' o' b n' hk' hb ⟨k, n, hq, hk⟩ => ?_
    obtain ⟨oq, hoq⟩ := hQget k hq
    obtain rfl := GR.inj hG k' k o' oq b n' n (hsub k' o' hk') hoq hb hk
    obtain ⟨j, oj, h1, h2, h3, rfl⟩ := hq
    rw [hnone j oj h2 (hI.lt j h1) h3] at hk'; cases hk'
  · refine GR.rejoin (G := GdL G base all.size L) (Q := Q) hG hm hF (fun b hb => .inl hb) (fun k hk => hk) (fun k b n hq hk => .inr ⟨k, n, hq, hk⟩) hG' (fun k o hq hk => ?_) (fun k o hq hk => ?_) (by rw [hO2.next]; exact Nat.le_refl _)
    · obtain ⟨j, oj, h1, h2, h3, rfl⟩ := hq
      rw [hO2.made j oj ⟨h1, h2⟩ h3] at hk
      rw [hO.made j oj ⟨h1, by omega⟩ h3]; exact hk
    · rw [hO2.old k fun j oj h1 h2 h3 => hq ⟨j, oj, h1.1, h1.2, h2, h3⟩] at hk
      exact hk
  · cases hg : H'.tr.get (base + j) with
    | none => rfl
    | some x =>
      exfalso
      obtain ⟨b1, n1, y, g1, g2, _⟩ := hG'.obj _ _ hg
      by_cases hjL : j ∈ L
      · obtain ⟨b2, n2, y2, g3, _⟩ := GR.obj hG _ _ (hO.made j oj ⟨hjL, by omega⟩ h3)
        have := hm _ _ g3
        rw [g1] at this; cases this
        exact g2 (.inr ⟨_, _, ⟨j, oj, hjL, h1, h3, rfl⟩, g3⟩)
      · have := (hG'.rid (base + j) (.inr ⟨j, Nat.lt_of_lt_of_le h2 h.le, hjL, rfl⟩)).2
        rw [this] at g1; cases g1
end
end Vx
