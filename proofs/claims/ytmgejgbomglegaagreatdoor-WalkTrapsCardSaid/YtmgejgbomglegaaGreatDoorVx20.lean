/-
  Regions that draw their order: what going over them in the order of the text has found.
-/
import Derived.Test.YtmgejgbomglegaaGreatDoorVx19
namespace Vx
open Go

structure TS : Type where
  E : Tr AV
  H : Heap
  cur : Heap
  sn : List (Nat × Heap)
  ld : List (Nat × TypeId × AV × AV)
  am : Nat
  xm : Nat
inductive Kd : Type where
  | plain
  | load (t : TypeId) (ad v : AV)
  | mk (o : AObj)
  | eff
  | gh
section
variable (P : Program) (D : Dec) (rec : Rec) (all : Array Oper) (mt : Tr Nat) (base nt : Nat)
/-- One operation, in the order of the text. -/
inductive TStep (i : Nat) (o : Oper) : TS → TS → Kd → Prop
  | skip {s : TS} {E' : Tr AV} (hw : wantedA all s.E o = some false) (hp : putA nt s.E o.dst (.tup []) = some E') : TStep i o s ⟨E', s.H, s.cur, s.sn, s.ld, s.am, s.xm⟩ .plain
  | pure {s : TS} {v : AV} {H1 : Heap} {E' : Tr AV} (hw : wantedA all s.E o = some true) (hpu : isPure s.E o.op = true) (ho : opA P D s.E s.H o.op = .val v H1) (hp : putA nt s.E o.dst v = some E') : TStep i o s ⟨E', s.H, s.cur, s.sn, s.ld, s.am, s.xm⟩ .plain
  | load {s : TS} {t : TypeId} {x : Operand} {ad v : AV} {E' : Tr AV} (hw : wantedA all s.E o = some true) (hop : o.op = .load t x) (hx : ev s.E x = some ad) (hl : loadA P s.cur t ad = some v)
      (hs : snapsOK P t ad v (og (mt.get i) 0) s.sn = true) (hp : putA nt s.E o.dst v = some E') : TStep i o s ⟨E', s.H, s.cur, s.sn, (i, t, ad, v) :: s.ld, s.am, s.xm⟩ (.load t ad v)
  | mk {s : TS} {m : Mk} {E' : Tr AV} (hw : wantedA all s.E o = some true) (hm : opMk P s.E o.op = some m) (hp : putA nt s.E o.dst (m.2 (base + i)) = some E') : TStep i o s ⟨E', ⟨s.H.tr.put (base + i) (some m.1), s.H.next⟩, s.cur, s.sn, s.ld, s.am ||| 2 ^ i, s.xm⟩ (.mk m.1)
  | clo {s : TS} {f : FuncId} {args : List AV} {v : AV} {E' : Tr AV} (hw : wantedA all s.E o = some true) (ho : opA P D s.E s.H o.op = .call f args) (hc : closedCall P D rec f args = some v) (hp : putA nt s.E o.dst v = some E') :
      TStep i o s ⟨E', s.H, s.cur, s.sn, s.ld, s.am, s.xm⟩ .plain
  | eff {s : TS} {v : AV} {H' : Heap} {E' : Tr AV} (hw : wantedA all s.E o = some true) (hb : (s.am ||| s.xm) &&& og (mt.get i) 0 = s.am ||| s.xm) (he : effA P D rec s.H (opA P D s.E s.H o.op) = .ok v H')
      (hl : loadsOK P H' (og (mt.get i) 0) s.ld = true) (hp : putA nt s.E o.dst v = some E') : TStep i o s ⟨E', H', H', (i, s.cur) :: s.sn, s.ld, s.am, s.xm ||| 2 ^ i⟩ .eff
  | gh {s : TS} {E' : Tr AV} (hp : putA nt s.E o.dst (.tup []) = some E') : TStep i o s ⟨E', s.H, s.cur, s.sn, s.ld, s.am, s.xm⟩ .gh
structure TPan (i : Nat) (o : Oper) (s : TS) (c : List AEnt) (H' : Heap) : Prop where
  hw : wantedA all s.E o = some true
  hb : (s.am ||| s.xm) &&& og (mt.get i) 0 = s.am ||| s.xm
  he : effA P D rec s.H (opA P D s.E s.H o.op) = .pan c H'
end
def upN {α : Type} (T : Nat → α) (i : Nat) (x : α) : Nat → α := fun j => if j = i then x else T j
theorem upN_self {α : Type} (T : Nat → α) (i : Nat) (x : α) : upN T i x i = x := by simp [upN]
theorem upN_ne {α : Type} (T : Nat → α) {i j : Nat} (x : α) (h : j ≠ i) : upN T i x j = T j := by simp [upN, h]

section
variable {P : Program} {D : Dec} {rec : Rec} {all : Array Oper} {mt : Tr Nat} {base nt : Nat}
/-- What going over the text behind an operation that panics has found. -/
def GoPan (P : Program) (D : Dec) (rec : Rec) (all : Array Oper) (mt : Tr Nat) (base nt : Nat) (p i : Nat) (s : TS) : Prop :=
  ∃ (T : Nat → TS) (K : Nat → Kd), T i = s ∧ ∀ j o, i ≤ j → all[j]? = some o → TStep P D rec all mt base nt j o (T j) (T (j + 1)) (K j) ∧ K j ≠ .eff ∧ (K j = .gh → bitA (og (mt.get j) 0) p = true)
theorem GoPan.step {p i : Nat} {o : Oper} {s s' : TS} {k : Kd} (ho : all[i]? = some o) (hs : TStep P D rec all mt base nt i o s s' k) (h1 : k ≠ .eff) (h2 : k = .gh → bitA (og (mt.get i) 0) p = true) (h : GoPan P D rec all mt base nt p (i + 1) s') : GoPan P D rec all mt base nt p i s := by
  obtain ⟨T, K, h3, h4⟩ := h
  refine ⟨upN T i s, upN K i k, upN_self _ _ _, fun j o' hj ho' => ?_⟩
  by_cases e : j = i
  · subst e
    rw [ho] at ho'; cases ho'
    rw [upN_self, upN_self, upN_ne _ _ (by omega), h3]; exact ⟨hs, h1, h2⟩
  · rw [upN_ne _ _ e, upN_ne _ _ e, upN_ne _ _ (by omega)]
    exact h4 j o' (by omega) ho'
theorem drawPan_ok {E0 : Tr AV} {p : Nat} {c : List AEnt} {Hp : Heap} : ∀ (rest : List Oper) (i : Nat) (E : Tr AV) (H cur : Heap) (sn : List (Nat × Heap)) (ld : List (Nat × TypeId × AV × AV)) (am xm : Nat) (r : DrawR), all.toList.drop i = rest → i ≤ all.size →
    drawPan P D rec all mt base nt E0 p c Hp rest i E H cur sn ld am xm = r → r ≠ .bad → r = .pan (clearA all.toList E0) c Hp ∧ GoPan P D rec all mt base nt p i ⟨E, H, cur, sn, ld, am, xm⟩
  | [], i, E, H, cur, sn, ld, am, xm, r, hd, hi, h, _ => by
    have hn : i = all.size := by
      rw [List.drop_eq_nil_iff] at hd
      simp at hd; omega
    simp only [drawPan] at h
    refine ⟨h.symm, fun _ => ⟨E, H, cur, sn, ld, am, xm⟩, fun _ => .plain, rfl, fun j o h1 h2 => ?_⟩
    rw [Array.getElem?_eq_none (by omega)] at h2; cases h2
  | o :: rest, i, E, H, cur, sn, ld, am, xm, r, hd, hi, h, hr => by
    obtain ⟨e1, e2, _, e4⟩ := ops_next hd hi
    have go : ∀ {E' H' cur' sn' ld' am' xm'} {k : Kd}, TStep P D rec all mt base nt i o ⟨E, H, cur, sn, ld, am, xm⟩ ⟨E', H', cur', sn', ld', am', xm'⟩ k → k ≠ .eff → (k = .gh → bitA (og (mt.get i) 0) p = true) →
        drawPan P D rec all mt base nt E0 p c Hp rest (i + 1) E' H' cur' sn' ld' am' xm' = r → r = .pan (clearA all.toList E0) c Hp ∧ GoPan P D rec all mt base nt p i ⟨E, H, cur, sn, ld, am, xm⟩ := fun hs h1 h2 hq =>
      let ⟨q1, q2⟩ := drawPan_ok rest _ _ _ _ _ _ _ _ r e4 e2 hq hr
      ⟨q1, GoPan.step e1 hs h1 h2 q2⟩
    simp only [drawPan] at h
    split at h
    · rename_i hbit
      split at h
      · rename_i E' hp
        exact go (.gh hp) (by simp) (fun _ => hbit) h
      · exact absurd h.symm hr
    · split at h
      · exact absurd h.symm hr
      · rename_i hw
        split at h
        · rename_i E' hp
          exact go (.skip hw hp) (by simp) (by simp) h
        · exact absurd h.symm hr
      · rename_i hw
        split at h
        · rename_i hpu
          split at h
          · rename_i v H1 ho
            split at h
            · rename_i E' hp
              exact go (.pure hw hpu ho hp) (by simp) (by simp) h
            · exact absurd h.symm hr
          · exact absurd h.symm hr
        · split at h
          · rename_i t x hop
            split at h
            · rename_i ad hx
              split at h
              · rename_i v hl
                split at h
                · rename_i hs
                  split at h
                  · rename_i E' hp
                    exact go (.load hw hop hx hl hs hp) (by simp) (by simp) h
                  · exact absurd h.symm hr
                · exact absurd h.symm hr
              · exact absurd h.symm hr
            · exact absurd h.symm hr
          · split at h
            · rename_i m hm
              split at h
              · rename_i E' hp
                exact go (.mk hw hm hp) (by simp) (by simp) h
              · exact absurd h.symm hr
            · split at h
              · rename_i v hv
                split at h
                · rename_i E' hp
                  split at hv
                  · rename_i f args ho
                    exact go (.clo hw ho hv hp) (by simp) (by simp) h
                  · cases hv
                · exact absurd h.symm hr
              · exact absurd h.symm hr
/-- What going over the text has found. -/
def GoOK (P : Program) (D : Dec) (rec : Rec) (all : Array Oper) (mt : Tr Nat) (base nt : Nat) (E0 : Tr AV) (i : Nat) (s : TS) (r : DrawR) : Prop :=
  ∃ (T : Nat → TS) (K : Nat → Kd), i ≤ all.size ∧ T i = s ∧ (∀ j o, i ≤ j → all[j]? = some o → TStep P D rec all mt base nt j o (T j) (T (j + 1)) (K j)) ∧
    (((∀ j, i ≤ j → j < all.size → K j ≠ .gh) ∧ r = .ok (T all.size).E (T all.size).H) ∨
      (∃ p o c H', i ≤ p ∧ all[p]? = some o ∧ TPan P D rec all mt p o (T p) c H' ∧ r = .pan (clearA all.toList E0) c H' ∧ (∀ j, i ≤ j → j < all.size → K j = .gh → j = p ∨ bitA (og (mt.get j) 0) p = true) ∧ ∀ j, p < j → j < all.size → K j ≠ .eff))
theorem GoOK.step {E0 : Tr AV} {i : Nat} {o : Oper} {s s' : TS} {k : Kd} {r : DrawR} (ho : all[i]? = some o) (hs : TStep P D rec all mt base nt i o s s' k) (hk : k ≠ .gh) (h : GoOK P D rec all mt base nt E0 (i + 1) s' r) : GoOK P D rec all mt base nt E0 i s r := by
  obtain ⟨T, K, h2, h3, h4, h5⟩ := h
  refine ⟨upN T i s, upN K i k, by omega, upN_self _ _ _, fun j o' hj ho' => ?_, ?_⟩
  · by_cases e : j = i
    · subst e
      rw [ho] at ho'; cases ho'
      rw [upN_self, upN_self, upN_ne _ _ (by omega), h3]; exact hs
    · rw [upN_ne _ _ e, upN_ne _ _ e, upN_ne _ _ (by omega)]
      exact h4 j o' (by omega) ho'
  · rcases h5 with ⟨h5, h6⟩ | ⟨p, o', c, H', h5, h6, h7, h8, h9, h10⟩
    · refine .inl ⟨fun j h1 h2 => ?_, by rw [upN_ne _ _ (by omega)]; exact h6⟩
      by_cases e : j = i
      · subst e; rw [upN_self]; exact hk
      · rw [upN_ne _ _ e]; exact h5 j (by omega) h2
    · refine .inr ⟨p, o', c, H', by omega, h6, by rw [upN_ne _ _ (by omega)]; exact h7, h8, fun j h1 h2 h3 => ?_, fun j h1 h2 => by rw [upN_ne _ _ (by omega)]; exact h10 j h1 h2⟩
      by_cases e : j = i
      · subst e; rw [upN_self] at h3; exact absurd h3 hk
      · rw [upN_ne _ _ e] at h3; exact h9 j (by omega) h2 h3
theorem drawGo_ok {E0 : Tr AV} : ∀ (rest : List Oper) (i : Nat) (E : Tr AV) (H cur : Heap) (sn : List (Nat × Heap)) (ld : List (Nat × TypeId × AV × AV)) (am xm : Nat) (r : DrawR), all.toList.drop i = rest → i ≤ all.size →
    drawGo P D rec all mt all.toList.length base nt E0 rest i E H cur sn ld am xm = r → r ≠ .bad → GoOK P D rec all mt base nt E0 i ⟨E, H, cur, sn, ld, am, xm⟩ r
  | [], i, E, H, cur, sn, ld, am, xm, r, hd, hi, h, _ => by
    have hn : i = all.size := by
      rw [List.drop_eq_nil_iff] at hd
      simp at hd; omega
    simp only [drawGo] at h
    refine ⟨fun _ => ⟨E, H, cur, sn, ld, am, xm⟩, fun _ => .plain, hi, rfl, fun j o h1 h2 => ?_, .inl ⟨fun j h1 h2 => by omega, h.symm⟩⟩
    rw [Array.getElem?_eq_none (by omega)] at h2; cases h2
  | o :: rest, i, E, H, cur, sn, ld, am, xm, r, hd, hi, h, hr => by
    obtain ⟨e1, e2, _, e4⟩ := ops_next hd hi
    simp only [drawGo] at h
    split at h
    · exact absurd h.symm hr
    · rename_i hw
      split at h
      · rename_i E' hp
        exact GoOK.step e1 (.skip hw hp) (by simp) (drawGo_ok rest _ _ _ _ _ _ _ _ r e4 e2 h hr)
      · exact absurd h.symm hr
    · rename_i hw
      split at h
      · rename_i hpu
        split at h
        · rename_i v H1 ho
          split at h
          · rename_i E' hp
            exact GoOK.step e1 (.pure hw hpu ho hp) (by simp) (drawGo_ok rest _ _ _ _ _ _ _ _ r e4 e2 h hr)
          · exact absurd h.symm hr
        · exact absurd h.symm hr
      · split at h
        · rename_i t x hop
          split at h
          · rename_i ad hx
            split at h
            · rename_i v hl
              split at h
              · rename_i hs
                split at h
                · rename_i E' hp
                  exact GoOK.step e1 (.load hw hop hx hl hs hp) (by simp) (drawGo_ok rest _ _ _ _ _ _ _ _ r e4 e2 h hr)
                · exact absurd h.symm hr
              · exact absurd h.symm hr
            · exact absurd h.symm hr
          · exact absurd h.symm hr
        · split at h
          · rename_i m hm
            split at h
            · rename_i E' hp
              exact GoOK.step e1 (.mk hw hm hp) (by simp) (drawGo_ok rest _ _ _ _ _ _ _ _ r e4 e2 h hr)
            · exact absurd h.symm hr
          · split at h
            · rename_i v hv
              split at h
              · rename_i E' hp
                split at hv
                · rename_i f args ho
                  exact GoOK.step e1 (.clo hw ho hv hp) (by simp) (drawGo_ok rest _ _ _ _ _ _ _ _ r e4 e2 h hr)
                · cases hv
              · exact absurd h.symm hr
            · split at h
              · exact absurd h.symm hr
              · rename_i hb
                have hb := Nat.eq_of_beq_eq_true hb
                split at h
                · rename_i v H' he
                  split at h
                  · rename_i hl
                    split at h
                    · rename_i E' hp
                      exact GoOK.step e1 (.eff hw hb he hl hp) (by simp) (drawGo_ok rest _ _ _ _ _ _ _ _ r e4 e2 h hr)
                    · exact absurd h.symm hr
                  · exact absurd h.symm hr
                · rename_i c H' he
                  split at h
                  · rename_i E' hp
                    obtain ⟨q1, T, K, q2, q3⟩ := drawPan_ok rest _ _ _ _ _ _ _ _ r e4 e2 h hr
                    refine ⟨upN T i ⟨E, H, cur, sn, ld, am, xm⟩, upN K i .gh, hi, upN_self _ _ _, fun j o' hj ho' => ?_, .inr ⟨i, o, c, H', Nat.le_refl _, e1, by rw [upN_self]; exact ⟨hw, hb, he⟩, q1, fun j h1 h2 h3 => ?_, fun j h1 h2 => ?_⟩⟩
                    · by_cases e : j = i
                      · subst e
                        rw [e1] at ho'; cases ho'
                        rw [upN_self, upN_self, upN_ne _ _ (by omega), q2]; exact .gh hp
                      · rw [upN_ne _ _ e, upN_ne _ _ e, upN_ne _ _ (by omega)]
                        exact (q3 j o' (by omega) ho').1
                    · by_cases e : j = i
                      · exact .inl e
                      · rw [upN_ne _ _ e] at h3
                        exact .inr ((q3 j all[j] (by omega) (by simp [h2])).2.2 h3)
                    · rw [upN_ne _ _ (by omega)]
                      exact (q3 j all[j] (by omega) (by simp [h2])).2.1
                  · exact absurd h.symm hr
                · exact absurd h.symm hr
theorem putA_inv {E E' : Tr AV} {dst : Option Tmp} {v : AV} (h : putA nt E dst v = some E') : (dst = none ∧ E' = E) ∨ (∃ d, dst = some d ∧ d < nt ∧ E' = E.put d (some v)) := by
  unfold putA at h
  split at h
  · cases h; exact .inl ⟨rfl, rfl⟩
  · split at h
    · rename_i hd; cases h; exact .inr ⟨_, rfl, Nat.le_of_ble_eq_true hd, rfl⟩
    · cases h
theorem putA_some {E E' E2 : Tr AV} {dst : Option Tmp} {v : AV} (h : putA nt E dst v = some E') : ∃ E2', putA nt E2 dst v = some E2' := by
  unfold putA at h ⊢
  split at h
  · exact ⟨_, rfl⟩
  · split at h
    · exact ⟨_, rfl⟩
    · cases h
theorem TStep.put {i : Nat} {o : Oper} {s s' : TS} {k : Kd} (h : TStep P D rec all mt base nt i o s s' k) : ∃ v, putA nt s.E o.dst v = some s'.E := by
  cases h with
  | skip _ hp => exact ⟨_, hp⟩
  | pure _ _ _ hp => exact ⟨_, hp⟩
  | load _ _ _ _ _ hp => exact ⟨_, hp⟩
  | mk _ _ hp => exact ⟨_, hp⟩
  | clo _ _ _ hp => exact ⟨_, hp⟩
  | eff _ _ _ _ hp => exact ⟨_, hp⟩
  | gh hp => exact ⟨_, hp⟩

/-- The heap: what has been made since the last effect, and the heap then. -/
structure Over (K : Nat → Kd) (base : Nat) (S : Nat → Prop) (cur H : Heap) : Prop where
  next : H.next = cur.next
  made : ∀ i o, S i → K i = .mk o → H.tr.get (base + i) = some o
  old : ∀ k, (∀ i o, S i → K i = .mk o → k ≠ base + i) → H.tr.get k = cur.tr.get k
theorem Over.cong {K : Nat → Kd} {S S' : Nat → Prop} {cur H : Heap} (h : Over K base S cur H) (hS : ∀ i o, K i = .mk o → (S i ↔ S' i)) : Over K base S' cur H :=
  ⟨h.next, fun i o hs hk => h.made i o ((hS i o hk).2 hs) hk, fun k hk => h.old k fun i o hs hi => hk i o ((hS i o hi).1 hs) hi⟩
theorem Over.put {K : Nat → Kd} {S : Nat → Prop} {cur H : Heap} (h : Over K base S cur H) {i : Nat} {o : AObj} (hk : K i = .mk o) : Over K base (fun j => S j ∨ j = i) cur ⟨H.tr.put (base + i) (some o), H.next⟩ := by
  refine ⟨h.next, fun j oj hs hj => ?_, fun k hno => ?_⟩
  · simp only [Tr.get_put]
    by_cases e : j = i
    · subst e; rw [if_pos rfl]; rw [hk] at hj; cases hj; rfl
    · rw [if_neg (by omega)]; exact h.made j oj (hs.resolve_right e) hj
  · simp only [Tr.get_put]
    rw [if_neg (hno i o (.inr rfl) hk)]
    exact h.old k fun j oj hs hj => hno j oj (.inl hs) hj
theorem Over.uniq {K : Nat → Kd} {S : Nat → Prop} {cur H H' : Heap} (h : Over K base S cur H) (h' : Over K base S cur H') (k : Nat) : H.tr.get k = H'.tr.get k := by
  by_cases e : ∃ i o, S i ∧ K i = .mk o ∧ k = base + i
  · obtain ⟨i, o, hs, hk, rfl⟩ := e
    rw [h.made i o hs hk, h'.made i o hs hk]
  · have : ∀ i o, S i → K i = .mk o → k ≠ base + i := fun i o hs hk hki => e ⟨i, o, hs, hk, hki⟩
    rw [h.old k this, h'.old k this]

/-- A text that has been gone over as far as m. -/
structure Txt (P : Program) (D : Dec) (rec : Rec) (all : Array Oper) (mt : Tr Nat) (base nt : Nat) (T : Nat → TS) (K : Nat → Kd) (m : Nat) : Prop where
  plan : Plan all mt
  le : m ≤ all.size
  step : ∀ j o, j < m → all[j]? = some o → TStep P D rec all mt base nt j o (T j) (T (j + 1)) (K j)
  start : (T 0).H = (T 0).cur
  sn : (T 0).sn = []
  ld : (T 0).ld = []
section
variable {T : Nat → TS} {K : Nat → Kd} {m : Nat} (h : Txt P D rec all mt base nt T K m)
include h
theorem Txt.at {j : Nat} (hj : j < m) : ∃ o, all[j]? = some o ∧ TStep P D rec all mt base nt j o (T j) (T (j + 1)) (K j) := by
  have hlt : j < all.size := Nat.lt_of_lt_of_le hj h.le
  exact ⟨all[j], by simp [hlt], h.step j _ hj (by simp [hlt])⟩
theorem Txt.env {i : Nat} (t : Nat) : ∀ {j : Nat}, i ≤ j → j ≤ m → (∀ k o, i ≤ k → k < j → all[k]? = some o → o.dst ≠ some t) → (T j).E.get t = (T i).E.get t := by
  intro j
  induction j with
  | zero =>
    intro h1 _ _
    have e : i = 0 := by omega
    rw [e]
  | succ j ih =>
    intro h1 h2 h3
    by_cases e : i = j + 1
    · subst e; rfl
    · obtain ⟨o, ho, hs⟩ := h.at (j := j) (by omega)
      obtain ⟨v, hp⟩ := hs.put
      have hd := h3 j o (by omega) (by omega) ho
      rw [← ih (by omega) (by omega) (fun k o' a b c => h3 k o' a (by omega) c)]
      rcases putA_inv hp with ⟨_, e1⟩ | ⟨d, e1, _, e2⟩
      · rw [e1]
      · rw [e2, Tr.get_put, if_neg]
        intro e3; subst e3; exact hd e1
/-- What has been written is not written again. -/
theorem Txt.wrote {t k j : Nat} {o : Oper} (ho : all[k]? = some o) (hd : o.dst = some t) (hk : k < j) (hj : j ≤ m) : (T j).E.get t = (T m).E.get t := by
  refine (h.env t hj (Nat.le_refl _) fun k' o' h1 h2 h3 h4 => ?_).symm
  have := h.plan.uniq k k' o o' t ho h3 hd h4
  omega
theorem Txt.am {i : Nat} : ∀ {j : Nat}, j ≤ m → i < j → (∃ o, K i = .mk o) ∨ K i = .eff → ((T j).am ||| (T j).xm).testBit i = true := by
  intro j
  induction j with
  | zero => intro _ h2; omega
  | succ j ih =>
    intro h1 h2 hk
    obtain ⟨o, ho, hs⟩ := h.at (j := j) (by omega)
    have old : ∀ a x : Nat, (∀ b, (T j).am.testBit b = true → a.testBit b = true) → (∀ b, (T j).xm.testBit b = true → x.testBit b = true) → i < j → (a ||| x).testBit i = true := fun a x ha hx hlt => by
      have := ih (by omega) hlt hk
      rw [Nat.testBit_or, Bool.or_eq_true] at this ⊢
      exact this.imp (ha i) (hx i)
    by_cases e : i = j
    · subst e
      generalize hkk : K i = kk at hs hk
      generalize T (i + 1) = s' at hs
      cases hs with
      | mk => simp [Nat.testBit_or]
      | eff => simp [Nat.testBit_or]
      | _ => rcases hk with ⟨o, hk⟩ | hk <;> cases hk
    · have hlt : i < j := by omega
      generalize T (j + 1) = s' at hs
      generalize K j = kk at hs
      cases hs with
      | mk => exact old _ _ (fun b hb => by rw [Nat.testBit_or, hb]; rfl) (fun b hb => hb) hlt
      | eff => exact old _ _ (fun b hb => hb) (fun b hb => by rw [Nat.testBit_or, hb]; rfl) hlt
      | _ => exact old _ _ (fun b hb => hb) (fun b hb => hb) hlt
theorem Txt.cur {c : Nat} : ∀ {j : Nat}, c ≤ j → j ≤ m → (∀ e, c ≤ e → e < j → K e ≠ .eff) → (T j).cur = (T c).cur := by
  intro j
  induction j with
  | zero =>
    intro h1 _ _
    have e : c = 0 := by omega
    rw [e]
  | succ j ih =>
    intro h1 h2 h3
    by_cases e : c = j + 1
    · subst e; rfl
    · obtain ⟨o, ho, hs⟩ := h.at (j := j) (by omega)
      rw [← ih (by omega) (by omega) (fun k a b => h3 k a (by omega))]
      have hk := h3 j (by omega) (by omega)
      generalize K j = kk at hs hk
      generalize T (j + 1) = s' at hs
      cases hs <;> first | rfl | exact absurd rfl hk
theorem Txt.cut {c : Nat} (hc : c ≤ m) (h0 : c = 0 ∨ ∃ e, c = e + 1 ∧ K e = .eff) : (T c).H = (T c).cur := by
  rcases h0 with rfl | ⟨e, rfl, he⟩
  · exact h.start
  · obtain ⟨o, ho, hs⟩ := h.at (j := e) (by omega)
    rw [he] at hs
    generalize T (e + 1) = s' at hs
    cases hs; rfl
theorem Txt.heap {c : Nat} (h0 : c = 0 ∨ ∃ e, c = e + 1 ∧ K e = .eff) : ∀ {j : Nat}, c ≤ j → j ≤ m → (∀ e, c ≤ e → e < j → K e ≠ .eff) → Over K base (fun i => c ≤ i ∧ i < j) (T c).cur (T j).H := by
  have base0 : c ≤ m → Over K base (fun i => c ≤ i ∧ i < c) (T c).cur (T c).H := fun hc => by
    rw [h.cut hc h0]
    exact ⟨rfl, fun i o hs => by omega, fun k _ => rfl⟩
  intro j
  induction j with
  | zero =>
    intro h1 h2 _
    have e : c = 0 := by omega
    subst e; exact base0 h2
  | succ j ih =>
    intro h1 h2 h3
    by_cases e : c = j + 1
    · subst e; exact base0 h2
    · obtain ⟨o, ho, hs⟩ := h.at (j := j) (by omega)
      have hi := ih (by omega) (by omega) (fun k a b => h3 k a (by omega))
      have hk := h3 j (by omega) (by omega)
      generalize hkk : K j = kk at hs hk
      generalize T (j + 1) = s' at hs
      have same : (∀ o, kk ≠ .mk o) → Over K base (fun i => c ≤ i ∧ i < j + 1) (T c).cur (T j).H := fun hno => hi.cong fun i o hki => by
        have : i ≠ j := fun e => by subst e; rw [hkk] at hki; exact hno o hki
        omega
      cases hs with
      | mk => exact (hi.put hkk).cong fun i o _ => by omega
      | eff => exact absurd rfl hk
      | _ => exact same (by simp)
theorem Txt.snaps {t : TypeId} {ad v : AV} {B : Nat} : ∀ {j : Nat}, j ≤ m → snapsOK P t ad v B (T j).sn = true → ∀ e, e < j → K e = .eff → (∀ e', e ≤ e' → e' < j → K e' = .eff → bitA B e' = false) → sameLoad P (T e).cur t ad v = true := by
  intro j
  induction j with
  | zero => intro _ _ e h2; omega
  | succ j ih =>
    intro h1 hs e he hke hno
    obtain ⟨o, ho, hst⟩ := h.at (j := j) (by omega)
    have keep : (T (j + 1)).sn = (T j).sn → e < j → sameLoad P (T e).cur t ad v = true := fun e1 hlt => by
      rw [e1] at hs
      exact ih (by omega) hs e hlt hke fun e' a b c => hno e' a (by omega) c
    have same : (T (j + 1)).sn = (T j).sn → K j ≠ .eff → sameLoad P (T e).cur t ad v = true := fun e1 hne => keep e1 (by
      have : e ≠ j := fun e => by subst e; exact hne hke
      omega)
    generalize hkk : K j = kk at hst same
    generalize hT : T (j + 1) = s' at hst same hs keep
    cases hst with
    | eff =>
      have hb : bitA B j = false := hno j (by omega) (by omega) hkk
      simp only [snapsOK, hb] at hs
      split at hs
      · rename_i hl
        by_cases e1 : e = j
        · subst e1; exact hl
        · exact ih (by omega) hs e (by omega) hke fun e' a b c => hno e' a (by omega) c
      · cases hs
    | _ => exact same rfl (by simp)
theorem Txt.loads {S : Heap} {B : Nat} {i : Nat} {t : TypeId} {ad v : AV} : ∀ {j : Nat}, j ≤ m → loadsOK P S B (T j).ld = true → i < j → K i = .load t ad v → bitA B i = false → sameLoad P S t ad v = true := by
  intro j
  induction j with
  | zero => intro _ _ h2; omega
  | succ j ih =>
    intro h1 hl hi hk hb
    obtain ⟨o, ho, hst⟩ := h.at (j := j) (by omega)
    have same : (T (j + 1)).ld = (T j).ld → (∀ t ad v, K j ≠ .load t ad v) → sameLoad P S t ad v = true := fun e1 hne => by
      have hij : i ≠ j := fun e => by subst e; exact hne _ _ _ hk
      rw [e1] at hl
      exact ih (by omega) hl (by omega) hk hb
    generalize hkk : K j = kk at hst same
    generalize hT : T (j + 1) = s' at hst same hl
    cases hst with
    | load =>
      simp only [loadsOK] at hl
      by_cases e : i = j
      · subst e
        rw [hkk] at hk; cases hk
        rw [hb] at hl
        simp only at hl
        split at hl
        · assumption
        · cases hl
      · split at hl
        · exact ih (by omega) hl (by omega) hk hb
        · split at hl
          · exact ih (by omega) hl (by omega) hk hb
          · cases hl
    | _ => exact same rfl (by simp)
end
end
end Vx
