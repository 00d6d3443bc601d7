/-
  Regions that draw their order: the orders that may be drawn; what 'planA' has looked at.
-/
import Derived.Test.YtmgejgbomglegaaGreatDoorVx16
import Derived.Orders
namespace Vx
open Go

theorem bindsA_eq (e : Edge) : bindsA e = Region.binds .any e := by
  unfold bindsA Region.binds
  cases e.ground <;> rfl

/-- An order that may be drawn: L has been gone over. -/
inductive Lin (ops : Array Oper) : List Nat → List Nat → Prop
  | done {L : List Nat} (h : ∀ i, i < ops.size → i ∈ L) : Lin ops L []
  | step {L l : List Nat} {i : Nat} {o : Oper} (ho : ops[i]? = some o) (hi : i ∉ L) (he : ∀ e ∈ o.after.toList, bindsA e = true → e.on ∈ L) (hl : Lin ops (i :: L) l) : Lin ops L (i :: l)

theorem countP_lt {α : Type} (p q : α → Bool) (x : α) : ∀ (l : List α), (∀ y ∈ l, q y = true → p y = true) → x ∈ l → p x = true → q x = false → l.countP q < l.countP p
  | [], _, hx, _, _ => by simp at hx
  | y :: l, h, hx, hp, hq => by
    have hle : l.countP q ≤ l.countP p := List.countP_mono_left fun z hz hqz => h z (List.mem_cons_of_mem _ hz) hqz
    rcases List.mem_cons.1 hx with e | hx
    · subst e
      simp only [List.countP_cons, hp, hq]; simp; omega
    · have ih := countP_lt p q x l (fun z hz => h z (List.mem_cons_of_mem _ hz)) hx hp hq
      simp only [List.countP_cons]
      have := h y List.mem_cons_self
      cases hqy : q y with
      | false => cases p y <;> simp <;> omega
      | true => rw [this hqy]; simp; omega
theorem lin_go (ops : Array Oper) (hacy : ∀ (i : Nat) (o : Oper), ops[i]? = some o → ∀ e ∈ o.after.toList, bindsA e = true → e.on < i) : ∀ (fuel t : Nat) (listed : Array Bool) (L : List Nat),
    listed.size = ops.size → (∀ i, i < ops.size → (listed.getD i true = true ↔ i ∈ L)) → (List.range ops.size).countP (fun i => !listed.getD i true) ≤ fuel → Lin ops L (Region.linearise.go .any ops fuel t listed []) := by
  have last : ∀ (listed : Array Bool) (L : List Nat), listed.size = ops.size → (∀ i, i < ops.size → (listed.getD i true = true ↔ i ∈ L)) → Region.ready .any ops listed = [] → ∀ i, i < ops.size → i ∈ L := by
    intro listed L hs hL hr i
    induction i using Nat.strongRecOn with
    | ind i ih =>
      intro hi
      refine Classical.byContradiction fun hn => ?_
      have ho : ops[i]? = some ops[i] := by simp [hi]
      have hin : i ∈ Region.ready .any ops listed := by
        unfold Region.ready
        rw [List.mem_filter]
        refine ⟨by simpa using hi, ?_⟩
        have h1 : listed.getD i true = false := by
          cases h : listed.getD i true with
          | false => rfl
          | true => exact absurd ((hL i hi).1 h) hn
        rw [h1, ho]
        simp only [Bool.not_false, Bool.true_and, Option.map_some, Option.getD_some]
        rw [Array.all_eq_true']
        intro e he
        cases hb : Region.binds .any e with
        | false => simp
        | true =>
          have hlt := hacy i _ ho e (by simpa using he) (by rw [bindsA_eq]; exact hb)
          have h2 := (hL e.on (by omega)).2 (ih e.on hlt (by omega))
          have h3 : listed.getD e.on false = true := by
            rw [Array.getD_eq_getD_getElem?] at h2 ⊢
            have : e.on < listed.size := by omega
            rw [Array.getElem?_eq_getElem this] at h2 ⊢
            simpa using h2
          simp [h3]
      rw [hr] at hin; simp at hin
  intro fuel
  induction fuel with
  | zero =>
    intro t listed L hs hL hc
    simp only [Region.linearise.go, List.reverse_nil]
    refine .done fun i hi => ?_
    have h0 : (List.range ops.size).countP (fun i => !listed.getD i true) = 0 := by omega
    rw [List.countP_eq_zero] at h0
    have := h0 i (by simpa using hi)
    exact (hL i hi).1 (by simpa using this)
  | succ fuel ih =>
    intro t listed L hs hL hc
    simp only [Region.linearise.go]
    change Lin ops L (match (Region.ready .any ops listed)[t % (Region.ready .any ops listed).length]? with
      | some i => Region.linearise.go .any ops fuel (t / (Region.ready .any ops listed).length) (listed.setIfInBounds i true) [i]
      | none => [].reverse)
    cases hi : (Region.ready .any ops listed)[t % (Region.ready .any ops listed).length]? with
    | none =>
      have hnil : Region.ready .any ops listed = [] := by
        cases hr : Region.ready .any ops listed with
        | nil => rfl
        | cons x xs =>
          rw [hr] at hi
          have hlt : t % (x :: xs).length < (x :: xs).length := Nat.mod_lt _ (by simp)
          rw [List.getElem?_eq_none_iff] at hi; omega
      exact .done (last listed L hs hL hnil)
    | some i =>
      have hmem := List.mem_of_getElem? hi
      unfold Region.ready at hmem
      rw [List.mem_filter] at hmem
      obtain ⟨h1, h2⟩ := hmem
      have h1 : i < ops.size := by simpa using h1
      have ho : ops[i]? = some ops[i] := by simp [h1]
      rw [ho] at h2
      simp only [Option.map_some, Option.getD_some, Bool.and_eq_true, Bool.not_eq_true'] at h2
      obtain ⟨h2, h3⟩ := h2
      have hnin : i ∉ L := fun h => by rw [(hL i h1).2 h] at h2; cases h2
      show Lin ops L (Region.linearise.go .any ops fuel _ _ [i])
      rw [linearise_go_acc, List.reverse_singleton, List.singleton_append]
      have hget : ∀ j, (listed.setIfInBounds i true).getD j true = if j = i then true else listed.getD j true := fun j => by
        rw [Array.getD_eq_getD_getElem?, Array.getD_eq_getD_getElem?]
        by_cases e : j = i
        · subst e; rw [if_pos rfl, Array.getElem?_setIfInBounds_self_of_lt (by omega)]; rfl
        · rw [if_neg e, Array.getElem?_setIfInBounds_ne (Ne.symm e)]
      refine .step ho hnin (fun e he hb => ?_) (ih _ _ _ (by simpa using hs) (fun j hj => ?_) ?_)
      · rw [Array.all_eq_true'] at h3
        have h4 := h3 e (by simpa using he)
        rw [← bindsA_eq, hb] at h4
        simp only [Bool.not_true, Bool.false_or] at h4
        have hlt := hacy i _ ho e he hb
        refine (hL e.on (by omega)).1 ?_
        rw [Array.getD_eq_getD_getElem?] at h4 ⊢
        have : e.on < listed.size := by omega
        rw [Array.getElem?_eq_getElem this] at h4 ⊢
        simpa using h4
      · rw [hget]
        by_cases e : j = i
        · subst e; simp
        · rw [if_neg e, hL j hj]; simp [e]
      · have := countP_lt (fun j => !listed.getD j true) (fun j => !(listed.setIfInBounds i true).getD j true) i (List.range ops.size)
          (fun y _ hy => by rw [hget] at hy; by_cases e : y = i
                            · rw [if_pos e] at hy; simp at hy
                            · rw [if_neg e] at hy; exact hy) (by simpa using h1) (by simp [h2]) (by rw [hget]; simp)
        omega

/-! ### What planA has looked at -/
theorem bitA_eq (m i : Nat) : bitA m i = m.testBit i := by
  unfold bitA
  rw [Nat.testBit_eq_decide_div_mod_eq]
  show Nat.beq ((m >>> i) % 2) 1 = _
  rw [Nat.shiftRight_eq_div_pow, Bool.eq_iff_iff]
  constructor
  · intro h; simp [Nat.eq_of_beq_eq_true h]
  · intro h
    have := of_decide_eq_true h
    rw [this]; rfl
structure Plan (ops : Array Oper) (mt : Tr Nat) : Prop where
  acy : ∀ (i : Nat) (o : Oper), ops[i]? = some o → ∀ e ∈ o.after.toList, bindsA e = true → e.on < i
  bits : ∀ (i : Nat) (o : Oper), ops[i]? = some o → ∀ k, bitA (og (mt.get i) 0) k = true → ∃ e ∈ o.after.toList, bindsA e = true ∧ (k = e.on ∨ bitA (og (mt.get e.on) 0) k = true)
  uniq : ∀ (i k : Nat) (o o' : Oper) (t : Tmp), ops[i]? = some o → ops[k]? = some o' → o.dst = some t → o'.dst = some t → i = k
  reads : ∀ (i : Nat) (o : Oper) (t : Tmp), ops[i]? = some o → (.tmp t ∈ o.op.operands.toList ∨ ∃ j w oj, o.guard = some (j, w) ∧ ops[j]? = some oj ∧ oj.dst = some t) → ∀ (k : Nat) (o' : Oper), ops[k]? = some o' → o'.dst = some t →
    (k < i ∧ bitA (og (mt.get i) 0) k = true) ∨ (i < k ∧ bitA (og (mt.get k) 0) i = true)
theorem edges_ok (mt : Tr Nat) (i : Nat) : ∀ (l : List Edge) (m r : Nat), edgesA mt i l m = some r →
    (∀ e ∈ l, bindsA e = true → e.on < i) ∧ ∀ k, r.testBit k = true → m.testBit k = true ∨ ∃ e ∈ l, bindsA e = true ∧ (k = e.on ∨ (og (mt.get e.on) 0).testBit k = true)
  | [], m, r, h => by simp only [edgesA, Option.some.injEq] at h; subst h; exact ⟨by simp, fun k hk => .inl hk⟩
  | e :: l, m, r, h => by
    simp only [edgesA] at h
    split at h
    · rename_i hb
      split at h
      · rename_i hlt
        obtain ⟨h1, h2⟩ := edges_ok mt i l _ r h
        refine ⟨fun e' he' hb' => ?_, fun k hk => ?_⟩
        · rcases List.mem_cons.1 he' with rfl | he'
          · exact Nat.le_of_ble_eq_true hlt
          · exact h1 e' he' hb'
        · rcases h2 k hk with h3 | ⟨e', he', hb', h3⟩
          · have h3' : (m ||| (2 ^ e.on ||| og (mt.get e.on) 0)).testBit k = true := h3
            rw [Nat.testBit_or, Nat.testBit_or, Nat.testBit_two_pow] at h3'
            simp only [Bool.or_eq_true, decide_eq_true_eq] at h3'
            rcases h3' with h4 | h4 | h4
            · exact .inl h4
            · exact .inr ⟨e, List.mem_cons_self, hb, .inl h4.symm⟩
            · exact .inr ⟨e, List.mem_cons_self, hb, .inr h4⟩
          · exact .inr ⟨e', List.mem_cons_of_mem _ he', hb', h3⟩
      · cases h
    · rename_i hb
      obtain ⟨h1, h2⟩ := edges_ok mt i l m r h
      refine ⟨fun e' he' hb' => ?_, fun k hk => ?_⟩
      · rcases List.mem_cons.1 he' with rfl | he'
        · rw [hb'] at hb; cases hb
        · exact h1 e' he' hb'
      · rcases h2 k hk with h3 | ⟨e', he', hb', h3⟩
        · exact .inl h3
        · exact .inr ⟨e', List.mem_cons_of_mem _ he', hb', h3⟩
theorem masks_ok (ops : Array Oper) : ∀ (l : List Oper) (i : Nat) (mt r : Tr Nat), ops.toList.drop i = l → masksA l i mt = some r →
    (∀ j, j < i → r.get j = mt.get j) ∧ ∀ j o, i ≤ j → ops[j]? = some o → (∀ e ∈ o.after.toList, bindsA e = true → e.on < j) ∧
      ∀ k, bitA (og (r.get j) 0) k = true → ∃ e ∈ o.after.toList, bindsA e = true ∧ (k = e.on ∨ bitA (og (r.get e.on) 0) k = true)
  | [], i, mt, r, hd, h => by
    simp only [masksA, Option.some.injEq] at h; subst h
    refine ⟨fun _ _ => rfl, fun j o hj ho => ?_⟩
    have hlt : j < ops.size := by
      rcases Nat.lt_or_ge j ops.size with h | h
      · exact h
      · rw [Array.getElem?_eq_none h] at ho; cases ho
    rw [List.drop_eq_nil_iff] at hd
    simp at hd; omega
  | o0 :: l, i, mt, r, hd, h => by
    simp only [masksA] at h
    split at h
    · rename_i m hm
      have hle : i ≤ ops.size := by
        rcases Nat.lt_or_ge ops.size i with h | h
        · rw [List.drop_eq_nil_of_le (by simp; omega)] at hd; cases hd
        · exact h
      obtain ⟨q1, q2, _, q4⟩ := ops_next hd hle
      obtain ⟨h1, h2⟩ := masks_ok ops l (Nat.succ i) _ r q4 h
      obtain ⟨e1, e2⟩ := edges_ok mt i _ 0 m hm
      have hri : r.get i = some m := by rw [h1 i (Nat.lt_succ_self _), Tr.get_put, if_pos rfl]
      refine ⟨fun j hj => by rw [h1 j (by omega), Tr.get_put, if_neg (by omega)], fun j o hj ho => ?_⟩
      rcases Nat.lt_or_ge i j with hlt | hge
      · exact h2 j o hlt ho
      · obtain rfl : j = i := by omega
        rw [q1] at ho; cases ho
        refine ⟨e1, fun k hk => ?_⟩
        rw [hri] at hk
        rw [bitA_eq] at hk
        rcases e2 k hk with h3 | ⟨e, he, hb, h3⟩
        · simp at h3
        · refine ⟨e, he, hb, ?_⟩
          have hlt := e1 e he hb
          rw [h1 e.on (by omega), Tr.get_put, if_neg (by omega), bitA_eq]
          exact h3
    · cases h
theorem writers_ok (ops : Array Oper) : ∀ (l : List Oper) (i : Nat) (wt r : Tr Nat), ops.toList.drop i = l → writersA l i wt = some r →
    (∀ t k, wt.get t = some k → r.get t = some k) ∧ (∀ j o t, i ≤ j → ops[j]? = some o → o.dst = some t → r.get t = some j)
  | [], i, wt, r, hd, h => by
    simp only [writersA, Option.some.injEq] at h; subst h
    refine ⟨fun _ _ h => h, fun j o t hj ho => ?_⟩
    have hlt : j < ops.size := by
      rcases Nat.lt_or_ge j ops.size with h | h
      · exact h
      · rw [Array.getElem?_eq_none h] at ho; cases ho
    rw [List.drop_eq_nil_iff] at hd
    simp at hd; omega
  | o0 :: l, i, wt, r, hd, h => by
    have hle : i ≤ ops.size := by
      rcases Nat.lt_or_ge ops.size i with h | h
      · rw [List.drop_eq_nil_of_le (by simp; omega)] at hd; cases hd
      · exact h
    obtain ⟨q1, q2, _, q4⟩ := ops_next hd hle
    simp only [writersA] at h
    split at h
    · rename_i hdst
      obtain ⟨h1, h2⟩ := writers_ok ops l (Nat.succ i) _ r q4 h
      refine ⟨h1, fun j o t hj ho ht => ?_⟩
      rcases Nat.lt_or_ge i j with hlt | hge
      · exact h2 j o t hlt ho ht
      · obtain rfl : j = i := by omega
        rw [q1] at ho; cases ho
        rw [hdst] at ht; cases ht
    · rename_i d hdst
      split at h
      · cases h
      · rename_i hnone
        obtain ⟨h1, h2⟩ := writers_ok ops l (Nat.succ i) _ r q4 h
        refine ⟨fun t k ht => ?_, fun j o t hj ho ht => ?_⟩
        · refine h1 t k ?_
          rw [Tr.get_put, if_neg (fun e => by rw [e, hnone] at ht; cases ht)]; exact ht
        · rcases Nat.lt_or_ge i j with hlt | hge
          · exact h2 j o t hlt ho ht
          · obtain rfl : j = i := by omega
            rw [q1] at ho; cases ho
            rw [hdst] at ht; cases ht
            exact h1 _ _ (by rw [Tr.get_put, if_pos rfl])
theorem reads_ok (mt wt : Tr Nat) (i : Nat) : ∀ (l : List Operand), readsOK mt wt i l = true → ∀ t, .tmp t ∈ l → readOK mt wt i t = true
  | [], _, t, ht => by simp at ht
  | x :: r, h, t, ht => by
    simp only [readsOK] at h
    split at h
    · split at h
      · rename_i h1
        rcases List.mem_cons.1 ht with e | ht
        · cases e; exact h1
        · exact reads_ok mt wt i r h t ht
      · cases h
    · rename_i hne
      rcases List.mem_cons.1 ht with e | ht
      · exact absurd e.symm (hne t)
      · exact reads_ok mt wt i r h t ht
theorem allReads_ok (ops : Array Oper) (mt wt : Tr Nat) : ∀ (l : List Oper) (i : Nat), ops.toList.drop i = l → allReadsOK mt wt ops.toList l i = true → ∀ j o, i ≤ j → ops[j]? = some o →
    readsOK mt wt j o.op.operands.toList = true ∧ guardOK mt wt ops.toList j o.guard = true
  | [], i, hd, h, j, o, hj, ho => by
    have hlt : j < ops.size := by
      rcases Nat.lt_or_ge j ops.size with h | h
      · exact h
      · rw [Array.getElem?_eq_none h] at ho; cases ho
    rw [List.drop_eq_nil_iff] at hd
    simp at hd; omega
  | o0 :: l, i, hd, h, j, o, hj, ho => by
    have hle : i ≤ ops.size := by
      rcases Nat.lt_or_ge ops.size i with h | h
      · rw [List.drop_eq_nil_of_le (by simp; omega)] at hd; cases hd
      · exact h
    obtain ⟨q1, q2, _, q4⟩ := ops_next hd hle
    simp only [allReadsOK] at h
    split at h
    · rename_i h1
      split at h
      · rename_i h2
        rcases Nat.lt_or_ge i j with hlt | hge
        · exact allReads_ok ops mt wt l (Nat.succ i) q4 h j o hlt ho
        · obtain rfl : j = i := by omega
          rw [q1] at ho; cases ho
          exact ⟨h1, h2⟩
      · cases h
    · cases h
theorem plan_ok {ops : Array Oper} {mt : Tr Nat} (h : planA ops = some mt) : Plan ops mt := by
  unfold planA at h
  split at h
  · cases h
  · rename_i mt' hm
    split at h
    · cases h
    · rename_i wt hw
      split at h
      · rename_i hr
        cases h
        obtain ⟨_, m2⟩ := masks_ok ops _ 0 .e mt (by simp) hm
        obtain ⟨_, w2⟩ := writers_ok ops _ 0 .e wt (by simp) hw
        have r2 := allReads_ok ops mt wt _ 0 (by simp) hr
        refine ⟨fun i o ho => (m2 i o (Nat.zero_le _) ho).1, fun i o ho => (m2 i o (Nat.zero_le _) ho).2, fun i k o o' t h1 h2 h3 h4 => ?_, fun i o t ho hrd k o' ho' ht => ?_⟩
        · have e1 := w2 i o t (Nat.zero_le _) h1 h3
          have e2 := w2 k o' t (Nat.zero_le _) h2 h4
          rw [e1] at e2; cases e2; rfl
        · have hwt := w2 k o' t (Nat.zero_le _) ho' ht
          have hread : readOK mt wt i t = true := by
            rcases hrd with h1 | ⟨j, w, oj, hg, hj, hd⟩
            · exact reads_ok mt wt i _ (r2 i o (Nat.zero_le _) ho).1 t h1
            · have h2 := (r2 i o (Nat.zero_le _) ho).2
              unfold guardOK at h2
              rw [hg] at h2
              simp only [nth_eq] at h2
              rw [show ops.toList[j]? = some oj by simpa using hj] at h2
              simpa [hd] using h2
          unfold readOK at hread
          rw [hwt] at hread
          simp only at hread
          split at hread
          · rename_i hlt; exact .inl ⟨Nat.le_of_ble_eq_true hlt, hread⟩
          · split at hread
            · rename_i hlt; exact .inr ⟨Nat.le_of_ble_eq_true hlt, hread⟩
            · cases hread
      · cases h
/-- What must come ahead of what has been gone over has been gone over. -/
theorem Plan.closed {ops : Array Oper} {mt : Tr Nat} (hp : Plan ops mt) {L : List Nat} (hL : ∀ i ∈ L, ∀ o, ops[i]? = some o → ∀ e ∈ o.after.toList, bindsA e = true → e.on ∈ L) :
    ∀ (i : Nat) (o : Oper), ops[i]? = some o → (∀ e ∈ o.after.toList, bindsA e = true → e.on ∈ L) → ∀ k, bitA (og (mt.get i) 0) k = true → k ∈ L := by
  intro i
  induction i using Nat.strongRecOn with
  | ind i ih =>
    intro o ho he k hk
    obtain ⟨e, h1, h2, h3⟩ := hp.bits i o ho k hk
    rcases h3 with rfl | h3
    · exact he e h1 h2
    · have hlt := hp.acy i o ho e h1 h2
      have hin := he e h1 h2
      have hi : i < ops.size := by
        rcases Nat.lt_or_ge i ops.size with h | h
        · exact h
        · rw [Array.getElem?_eq_none h] at ho; cases ho
      have ho' : ops[e.on]? = some ops[e.on] := by simp [show e.on < ops.size by omega]
      exact ih e.on hlt _ ho' (hL e.on hin _ ho') k h3
end Vx
