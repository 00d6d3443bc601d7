/-
  Regions that draw their order: what an operation hangs on; heaps that are alike.
-/
import Derived.Test.YtmgejgbomglegaaGreatDoorVx18
namespace Vx
open Go

/-! ### An operation hangs on its operands alone -/
section
variable {P : Program} {D : Dec} {E E' : Tr AV} {H : Heap}
theorem evs_cong : ∀ {l : List Operand}, (∀ x ∈ l, ev E x = ev E' x) → evs E l = evs E' l
  | [], _ => rfl
  | x :: r, h => by simp only [evs]; rw [h x List.mem_cons_self, evs_cong fun y hy => h y (List.mem_cons_of_mem _ hy)]
theorem evp_cong : ∀ {l : List (Nat × Operand)}, (∀ x ∈ l.map (·.2), ev E x = ev E' x) → evp E l = evp E' l
  | [], _ => rfl
  | (i, x) :: r, h => by simp only [evp]; rw [h x (by simp), evp_cong fun y hy => h y (by simp only [List.map_cons]; exact List.mem_cons_of_mem _ hy)]
theorem evo_cong {x : Option Operand} (h : ∀ y, x = some y → ev E y = ev E' y) : evo E x = evo E' x := by
  cases x with
  | none => rfl
  | some y => simp only [evo]; rw [h y rfl]
theorem opMk_cong {op : Op} (h : ∀ x ∈ op.operands.toList, ev E x = ev E' x) : opMk P E op = opMk P E' op := by
  cases op with
  | box t x => simp only [opMk]; rw [h x (by simp [Op.operands])]
  | buildSlice t len parts => simp only [opMk]; rw [evp_cong (by simpa [Op.operands] using h)]
  | makeSlice t l c => simp only [opMk]; rw [h l (by simp [Op.operands]), h c (by simp [Op.operands])]
  | _ => rfl
theorem callA_cong {c : Call} (h : ∀ x ∈ c.operands.toList, ev E x = ev E' x) : callA P D E H c = callA P D E' H c := by
  obtain ⟨callee, args, ats⟩ := c
  unfold callA
  rw [evs_cong (E := E) (E' := E') (l := args.toList) fun x hx => h x (by simp only [Call.operands, Array.toList_append, List.mem_append]; exact .inr hx)]
  cases callee with
  | value f => dsimp only; rw [h f (by simp [Call.operands])]
  | _ => rfl
theorem opA_cong {op : Op} (h : ∀ x ∈ op.operands.toList, ev E x = ev E' x) : opA P D E H op = opA P D E' H op := by
  have one : ∀ x, x ∈ op.operands.toList → ev E x = ev E' x := h
  cases op with
  | move x => simp only [opA]; rw [h x (by simp [Op.operands])]
  | assign x => simp only [opA]; rw [h x (by simp [Op.operands])]
  | pick c a b => simp only [opA]; rw [h c (by simp [Op.operands]), h a (by simp [Op.operands]), h b (by simp [Op.operands])]
  | alloc t => simp only [opA]; rw [opMk_cong h]
  | box t x => simp only [opA]; rw [opMk_cong h]
  | build t parts => simp only [opA]; rw [evp_cong (by simpa [Op.operands] using h)]
  | buildSlice t len parts => simp only [opA]; rw [opMk_cong h]
  | load t x => simp only [opA]; rw [h x (by simp [Op.operands])]
  | store t x y => simp only [opA]; rw [h x (by simp [Op.operands]), h y (by simp [Op.operands])]
  | nilCheck x => simp only [opA]; rw [h x (by simp [Op.operands])]
  | binOp op t x y _ => simp only [opA]; rw [h x (by simp [Op.operands]), h y (by simp [Op.operands])]
  | unOp op t x => simp only [opA]; rw [h x (by simp [Op.operands])]
  | convert s d x => simp only [opA]; rw [h x (by simp [Op.operands])]
  | makeInterface t x => simp only [opA]; rw [h x (by simp [Op.operands])]
  | makeFunc fn first cap =>
    simp only [opA]
    rw [evs_cong (E := E) (E' := E') (l := first.toList) fun x hx => h x (by simp only [Op.operands, Array.toList_append, List.mem_append]; exact .inl hx),
      evs_cong (E := E) (E' := E') (l := cap.toList) fun x hx => h x (by simp only [Op.operands, Array.toList_append, List.mem_append]; exact .inr hx)]
  | makeSlice t l c => simp only [opA]; rw [opMk_cong h]
  | makeMap t r => simp only [opA]; rw [opMk_cong h]
  | lookup t x ix ok => simp only [opA]; rw [h x (by simp [Op.operands]), h ix (by simp [Op.operands])]
  | mapUpdate t m k x => simp only [opA]; rw [h m (by simp [Op.operands]), h k (by simp [Op.operands]), h x (by simp [Op.operands])]
  | slice t x lo hi mx =>
    cases mx with
    | some m =>
      simp only [opA]
      rw [h x (by simp [Op.operands]), evo_cong (E := E) (E' := E') (x := lo) fun y hy => h y (by subst hy; simp [Op.operands]), evo_cong (E := E) (E' := E') (x := hi) fun y hy => h y (by subst hy; simp [Op.operands]), evo_cong (E := E) (E' := E') (x := some m) fun y hy => h y (by cases hy; simp [Op.operands])]
    | none =>
    simp only [opA]
    rw [h x (by simp [Op.operands]), evo_cong (E := E) (E' := E') (x := lo) fun y hy => h y (by subst hy; simp [Op.operands]), evo_cong (E := E) (E' := E') (x := hi) fun y hy => h y (by subst hy; simp [Op.operands])]
  | fieldAddr t x f => simp only [opA]; rw [h x (by simp [Op.operands])]
  | field t x f => simp only [opA]; rw [h x (by simp [Op.operands])]
  | indexAddr t x ix => simp only [opA]; rw [h x (by simp [Op.operands]), h ix (by simp [Op.operands])]
  | index t x ix => simp only [opA]; rw [h x (by simp [Op.operands]), h ix (by simp [Op.operands])]
  | extract x i => simp only [opA]; rw [h x (by simp [Op.operands])]
  | typeAssert x a b c => simp only [opA]; rw [h x (by simp [Op.operands])]
  | call c => exact callA_cong h
  | defer c =>
    obtain ⟨callee, args, ats⟩ := c
    simp only [opA]
    rw [evs_cong (E := E) (E' := E') (l := args.toList) fun x hx => h x (by simp only [Op.operands, Call.operands, Array.toList_append, List.mem_append]; exact .inr hx)]
    cases callee with
    | value f => dsimp only; rw [h f (by simp [Op.operands, Call.operands])]
    | _ => rfl
  | panic x => simp only [opA]; rw [h x (by simp [Op.operands])]
  | _ => rfl

/-! ### Operations that hang on no memory -/
theorem val1_some {x : Option AV} {v : AV} {H1 : Heap} (h : val1 x H = .val v H1) : x = some v ∧ H1 = H := by
  cases x with
  | none => simp [val1] at h
  | some u => simp only [val1, OpR.val.injEq] at h; exact ⟨by rw [h.1], h.2.symm⟩
theorem pure_form {op : Op} (h : isPure E op = true) : ∃ x : Option AV, ∀ H, opA P D E H op = val1 x H := by
  cases op with
  | move x => exact ⟨_, fun H => rfl⟩
  | assign x => exact ⟨_, fun H => rfl⟩
  | pick c a b =>
    cases hc : ev E c with
    | none => exact ⟨none, fun H => by simp [opA, hc, val1]⟩
    | some v =>
      cases v with
      | bool t => cases t with
        | true => exact ⟨ev E a, fun H => by simp [opA, hc]⟩
        | false => exact ⟨ev E b, fun H => by simp [opA, hc]⟩
      | _ => exact ⟨none, fun H => by simp [opA, hc, val1]⟩
  | build t parts =>
    cases hc : evp E parts.toList with
    | none => exact ⟨none, fun H => by simp [opA, hc, val1]⟩
    | some ps => cases hb : builtA P t ps with
      | none => exact ⟨none, fun H => by simp [opA, hc, hb, val1]⟩
      | some r => exact ⟨some (.agg r), fun H => by simp [opA, hc, hb, val1]⟩
  | nilCheck x =>
    cases hc : ev E x with
    | none => exact ⟨none, fun H => by simp [opA, hc, val1]⟩
    | some v =>
      cases v with
      | ptr k o => exact ⟨some _, fun H => by simp only [opA, hc, val1]; rfl⟩
      | fn f a c => exact ⟨some _, fun H => by simp only [opA, hc, val1]; rfl⟩
      | yld k => exact ⟨some _, fun H => by simp only [opA, hc, val1]; rfl⟩
      | _ => exact ⟨none, fun H => by simp [opA, hc, val1]⟩
  | binOp op t x y _ =>
    cases hc : ev E x with
    | none => exact ⟨none, fun H => by simp [opA, hc, val1]⟩
    | some v => cases hd : ev E y with
      | none => exact ⟨none, fun H => by simp [opA, hc, hd, val1]⟩
      | some u => exact ⟨_, fun H => by simp only [opA, hc, hd]; rfl⟩
  | unOp op t x =>
    cases op with
    | not =>
      cases hc : ev E x with
      | none => exact ⟨none, fun H => by simp [opA, hc, val1]⟩
      | some v =>
        cases v with
        | bool b => exact ⟨some _, fun H => by simp only [opA, hc, val1]; rfl⟩
        | _ => exact ⟨none, fun H => by simp [opA, hc, val1]⟩
    | neg =>
      cases hc : ev E x with
      | none => exact ⟨none, fun H => by simp [opA, hc, val1]⟩
      | some v =>
        cases v with
        | int k e => exact ⟨some _, fun H => by simp only [opA, hc, val1]; rfl⟩
        | _ => exact ⟨none, fun H => by simp [opA, hc, val1]⟩
    | _ => exact ⟨none, fun H => by simp [opA, val1]⟩
  | convert s d x =>
    simp only [isPure] at h
    cases hc : ev E x with
    | none => exact ⟨none, fun H => by simp [opA, hc, val1]⟩
    | some v =>
      rw [hc] at h
      cases v <;> first
        | (simp at h; done)
        | exact ⟨_, fun H => by simp only [opA, hc, convX]; rfl⟩
  | makeInterface t x =>
    cases hu : P.underlying t with
    | none => exact ⟨none, fun H => by simp [opA, hu, val1]⟩
    | some d => cases hi : isIface d with
      | true => exact ⟨none, fun H => by simp [opA, hu, hi, val1]⟩
      | false => cases hc : ev E x with
        | none => exact ⟨none, fun H => by simp [opA, hu, hi, hc, val1]⟩
        | some v => exact ⟨some _, fun H => by simp only [opA, hu, hi, hc, val1]; rfl⟩
  | makeFunc fn first cap =>
    cases fn with
    | func f =>
      cases h1 : evs E first.toList with
      | none => exact ⟨none, fun H => by simp [opA, h1, val1]⟩
      | some a => cases h2 : evs E cap.toList with
        | none => exact ⟨none, fun H => by simp [opA, h1, h2, val1]⟩
        | some c => exact ⟨some _, fun H => by simp only [opA, h1, h2, val1]; rfl⟩
    | _ => exact ⟨none, fun H => by simp [opA, val1]⟩
  | slice t x lo hi mx =>
    simp only [isPure] at h
    cases mx with
    | some m =>
      cases hc : ev E x with
      | none => exact ⟨none, fun H => by simp [opA, hc, val1]⟩
      | some a =>
        cases h1 : evo E lo with
        | none => exact ⟨none, fun H => by simp [opA, hc, h1, val1]⟩
        | some l => cases h2 : evo E hi with
          | none => exact ⟨none, fun H => by simp [opA, hc, h1, h2, val1]⟩
          | some u => cases h3 : evo E (some m) with
            | none => exact ⟨none, fun H => by simp [opA, hc, h1, h2, h3, val1]⟩
            | some y => exact ⟨_, fun H => by simp only [opA, hc, h1, h2, h3]; rfl⟩
    | none =>
      cases hc : ev E x with
      | none => exact ⟨none, fun H => by simp [opA, hc, val1]⟩
      | some a =>
        cases h1 : evo E lo with
        | none => exact ⟨none, fun H => by simp [opA, hc, h1, val1]⟩
        | some l => cases h2 : evo E hi with
          | none => exact ⟨none, fun H => by simp [opA, hc, h1, h2, val1]⟩
          | some u =>
            refine ⟨sliceX P emptyH t a l u, fun H' => ?_⟩
            have e : sliceX P H' t a l u = sliceX P emptyH t a l u := by
              rw [hc] at h
              cases a <;> first | rfl | simp at h
            simp only [opA, hc, h1, h2, e]
  | fieldAddr t x f =>
    cases hc : ev E x with
    | none => exact ⟨none, fun H => by simp [opA, hc, val1]⟩
    | some v => exact ⟨_, fun H => by simp only [opA, hc]; rfl⟩
  | field t x f =>
    cases hc : ev E x with
    | none => exact ⟨none, fun H => by simp [opA, hc, val1]⟩
    | some v => exact ⟨_, fun H => by simp only [opA, hc]; rfl⟩
  | indexAddr t x ix =>
    cases hc : ev E x with
    | none => exact ⟨none, fun H => by simp [opA, hc, val1]⟩
    | some v => cases hd : ev E ix with
      | none => exact ⟨none, fun H => by simp [opA, hc, hd, val1]⟩
      | some u => exact ⟨_, fun H => by simp only [opA, hc, hd]; rfl⟩
  | index t x ix =>
    cases hc : ev E x with
    | none => exact ⟨none, fun H => by simp [opA, hc, val1]⟩
    | some v => cases hd : ev E ix with
      | none => exact ⟨none, fun H => by simp [opA, hc, hd, val1]⟩
      | some u => exact ⟨_, fun H => by simp only [opA, hc, hd]; rfl⟩
  | extract x i =>
    cases hc : ev E x with
    | none => exact ⟨none, fun H => by simp [opA, hc, val1]⟩
    | some v => exact ⟨_, fun H => by simp only [opA, hc]; rfl⟩
  | typeAssert x a t ok =>
    cases hc : ev E x with
    | none => exact ⟨none, fun H => by simp [opA, hc, val1]⟩
    | some v => exact ⟨_, fun H => by simp only [opA, hc]; rfl⟩
  | call c =>
    obtain ⟨callee, args, ats⟩ := c
    have bad : ∀ {r : Heap → OpR}, (∀ H, r H = .bad) → ∃ x : Option AV, ∀ H, r H = val1 x H := fun h => ⟨none, fun H => by rw [h]; rfl⟩
    simp only [isPure] at h
    simp only [opA, callA]
    cases hl : evs E args.toList with
    | none => exact bad fun _ => rfl
    | some l =>
      dsimp only
      cases callee with
      | value f => simp at h
      | invoke r m => simp at h
      | builtin bi =>
        cases bi with
        | len =>
          dsimp only
          match l with
          | [] => exact bad fun _ => rfl
          | [x] => cases hn : nth ats.toList 0 with
            | none => exact bad fun _ => rfl
            | some t => exact ⟨_, fun _ => rfl⟩
          | _ :: _ :: _ => exact bad fun _ => rfl
        | max =>
          dsimp only
          split
          · rename_i k x k' y
            cases hn : cmpA D .gtr y x with
            | none => exact bad fun _ => rfl
            | some t => cases t <;> exact ⟨some _, fun _ => rfl⟩
          · exact bad fun _ => rfl
        | min =>
          dsimp only
          split
          · rename_i k x k' y
            cases hn : cmpA D .lss y x with
            | none => exact bad fun _ => rfl
            | some t => cases t <;> exact ⟨some _, fun _ => rfl⟩
          · exact bad fun _ => rfl
        | _ => simp at h
  | _ => simp [isPure] at h
end

/-! ### Likeness -/
theorem opB_eq {a b : BinOp} (h : opB a b = true) : a = b := by
  have h := Nat.eq_of_beq_eq_true h
  cases a <;> cases b <;> first | rfl | (simp [BinOp.ctorIdx] at h)
theorem seEq_eq : ∀ (a b : SE), seEq a b = true → a = b
  | .lit x, b, h => by
    cases b <;> simp only [seEq, Bool.false_eq_true] at h
    rw [ibeq_eq] at h; rw [eq_of_beq h]
  | .var i, b, h => by
    cases b <;> simp only [seEq, Bool.false_eq_true] at h
    rw [Nat.eq_of_beq_eq_true h]
  | .bin op k x y, b, h => by
    cases b <;> simp only [seEq, Bool.false_eq_true] at h
    split at h
    · rename_i h1
      split at h
      · rename_i h2
        split at h
        · rename_i h3
          rw [opB_eq h1, kindB_eq h2, seEq_eq x _ h3, seEq_eq y _ h]
        · cases h
      · cases h
    · cases h
  | .conv k x, b, h => by
    cases b <;> simp only [seEq, Bool.false_eq_true] at h
    split at h
    · rename_i h2
      rw [kindB_eq h2, seEq_eq x _ h]
    · cases h
theorem sesEq_eq : ∀ (a b : List SE), sesEq a b = true → a = b
  | [], b, h => by cases b <;> simp [sesEq] at h; rfl
  | x :: r, b, h => by
    cases b with
    | nil => simp [sesEq] at h
    | cons y s =>
      simp only [sesEq] at h
      split at h
      · rename_i hx; rw [seEq_eq x y hx, sesEq_eq r s h]
      · cases h
mutual
theorem avEq_eq : ∀ (a b : AV), avEq a b = true → a = b
  | .bool p, b, h => by
    cases b <;> simp only [avEq, Bool.false_eq_true] at h
    rename_i q; cases p <;> cases q <;> simp at h <;> rfl
  | .int k e, b, h => by
    cases b <;> simp only [avEq, Bool.false_eq_true] at h
    split at h
    · rename_i hk; rw [kindB_eq hk, seEq_eq _ _ h]
    · cases h
  | .float k n, b, h => by cases b <;> simp [avEq] at h
  | .str s, b, h => by
    cases b <;> simp only [avEq, Bool.false_eq_true] at h
    rename_i u
    rw [bytesB_eq] at h
    have := eq_of_beq h
    cases s; cases u
    congr 2
    exact Array.toList_inj.1 this
  | .ustr l, b, h => by
    cases b <;> simp only [avEq, Bool.false_eq_true] at h
    rw [sesEq_eq _ _ h]
  | .ptr k o, b, h => by
    cases b <;> simp only [avEq, Bool.false_eq_true] at h
    split at h
    · rename_i hk; rw [Nat.eq_of_beq_eq_true hk, Nat.eq_of_beq_eq_true h]
    · cases h
  | .nilp, b, h => by cases b <;> simp [avEq] at h; rfl
  | .sl k o l c e, b, h => by
    cases b <;> simp only [avEq, Bool.false_eq_true] at h
    split at h
    · rename_i h1
      split at h
      · rename_i h2
        split at h
        · rename_i h3
          split at h
          · rename_i h4
            rw [Nat.eq_of_beq_eq_true h1, Nat.eq_of_beq_eq_true h2, Nat.eq_of_beq_eq_true h3, Nat.eq_of_beq_eq_true h4, Nat.eq_of_beq_eq_true h]
          · cases h
        · cases h
      · cases h
    · cases h
  | .nils, b, h => by cases b <;> simp [avEq] at h; rfl
  | .mp k, b, h => by
    cases b <;> simp only [avEq, Bool.false_eq_true] at h
    rw [Nat.eq_of_beq_eq_true h]
  | .nilm, b, h => by cases b <;> simp [avEq] at h; rfl
  | .fn f a c, b, h => by
    cases b with
    | fn f' a' c' =>
      cases a with
      | cons x r => simp [avEq] at h
      | nil => cases a' with
        | cons x r => cases c <;> simp [avEq] at h
        | nil =>
          cases c with
          | nil => cases c' with
            | nil => simp only [avEq] at h; rw [Nat.eq_of_beq_eq_true h]
            | cons y s =>
              simp only [avEq] at h
              split at h
              · rename_i hf
                rw [Nat.eq_of_beq_eq_true hf, avsEq_eq _ _ h]
              · cases h
          | cons x r =>
            simp only [avEq] at h
            split at h
            · rename_i hf
              rw [Nat.eq_of_beq_eq_true hf, avsEq_eq _ _ h]
            · cases h
    | _ => cases a <;> cases c <;> simp [avEq] at h
  | .yld k, b, h => by
    cases b <;> simp only [avEq, Bool.false_eq_true] at h
    rw [Nat.eq_of_beq_eq_true h]
  | .nilf, b, h => by cases b <;> simp [avEq] at h; rfl
  | .ifc t v, b, h => by
    cases b <;> simp only [avEq, Bool.false_eq_true] at h
    split at h
    · rename_i ht; rw [Nat.eq_of_beq_eq_true ht, avEq_eq v _ h]
    · cases h
  | .nili, b, h => by cases b <;> simp [avEq] at h; rfl
  | .agg l, b, h => by
    cases b <;> simp only [avEq, Bool.false_eq_true] at h
    rw [avsEq_eq l _ h]
  | .tup l, b, h => by cases b <;> simp [avEq] at h
  | .sle k o, b, h => by cases b <;> simp [avEq] at h
termination_by a _ _ => sizeOf a
theorem avsEq_eq : ∀ (a b : List AV), avsEq a b = true → a = b
  | [], b, h => by cases b <;> simp [avsEq] at h; rfl
  | x :: r, b, h => by
    cases b with
    | nil => simp [avsEq] at h
    | cons y s =>
      simp only [avsEq] at h
      split at h
      · rename_i hx; rw [avEq_eq x y hx, avsEq_eq r s h]
      · cases h
termination_by a _ _ => sizeOf a
end
section
variable {P : Program} {μ μ' : Mu} {ρ : Nat → Int} {G : Gd} {H : Heap} {w : World}
theorem closedA_ok {v : AV} {v' : Value} (h : closedA v = true) (hv : VR μ ρ v v') : VR μ' ρ v v' := by
  cases hv with
  | agg hl => exact .agg (closedL_ok h hl)
  | tup hl => exact .tup (closedL_ok h hl)
  | _ => first | (simp [closedA, closedS] at h; done) | (constructor; assumption) | (constructor; done)

/-! ### Heaps -/
theorem loadA_mono {H2 : Heap} (hH : ∀ k o, H.tr.get k = some o → H2.tr.get k = some o) {t : TypeId} {x v : AV} (h : loadA P H t x = some v) : loadA P H2 t x = some v := by
  unfold loadA at h ⊢
  split at h
  · split at h
    · rename_i hk
      rw [hH _ _ hk]; exact h
    · cases h
  · cases h
/-- What a smaller heap stands for. -/
theorem GR.like (h : GR G μ ρ H w) {H2 : Heap} (ht : ∀ k o, H2.tr.get k = some o → H.tr.get k = some o) (hn : H.next ≤ H2.next) : GR G μ ρ H2 w :=
  ⟨fun k o hk => h.obj k o (ht _ _ hk), fun k k' o o' b n n' h1 h2 => h.inj k k' o o' b n n' (ht _ _ h1) (ht _ _ h2), fun k b n hk => ⟨Nat.lt_of_lt_of_le (h.dom k b n hk).1 hn, (h.dom k b n hk).2⟩, h.glt,
    fun k hk => ⟨Nat.lt_of_lt_of_le (h.rid k hk).1 hn, (h.rid k hk).2⟩⟩
theorem GR.guard (h : GR G μ ρ H w) (Q : Nat → Prop) (hQ : ∀ b, Q b → b < w.heap.size) (hd : ∀ k o b n, H.tr.get k = some o → μ k = some (b, n) → ¬ Q b) : GR ⟨fun b => G.blk b ∨ Q b, G.ids⟩ μ ρ H w :=
  ⟨fun k o hk => let ⟨b, n, x, h1, h2, h3, h4⟩ := h.obj k o hk; ⟨b, n, x, h1, fun hg => hg.elim h2 (hd k o b n hk h1), h3, h4⟩, h.inj, h.dom, fun b hb => hb.elim (h.glt b) (hQ b), h.rid⟩
theorem GR.idsLe (h : GR G μ ρ H w) {ids : Nat → Prop} (hi : ∀ k, ids k → G.ids k) : GR ⟨G.blk, ids⟩ μ ρ H w := ⟨h.obj, h.inj, h.dom, h.glt, fun k hk => h.rid k (hi k hk)⟩
theorem GR.idsUp (h : GR G μ ρ H w) {ids : Nat → Prop} {n : Nat} (hn : H.next ≤ n) (hi : ∀ k, ids k → G.ids k ∨ (H.next ≤ k ∧ k < n)) : GR ⟨G.blk, ids⟩ μ ρ ⟨H.tr, n⟩ w :=
  ⟨h.obj, h.inj, fun k b m hk => ⟨Nat.lt_of_lt_of_le (h.dom k b m hk).1 hn, (h.dom k b m hk).2⟩, h.glt, fun k hk => by
    rcases hi k hk with h1 | ⟨h1, h2⟩
    · exact ⟨Nat.lt_of_lt_of_le (h.rid k h1).1 hn, (h.rid k h1).2⟩
    · refine ⟨h2, ?_⟩
      cases e : μ k with
      | none => rfl
      | some x => obtain ⟨b, m⟩ := x; have := (h.dom k b m e).1; omega⟩
/-- A new block, known by a number that was kept free. -/
theorem GR.allocAt (h : GR G μ ρ H w) {k : Nat} (hk : G.ids k) {o : AObj} {x : Obj} {n : Nat} (ho : OR μ ρ n x o) :
    GR ⟨G.blk, fun j => G.ids j ∧ j ≠ k⟩ (μ.upd k (w.heap.size, n)) ρ ⟨H.tr.put k (some o), H.next⟩ (w.alloc x) ∧ Mu.le μ (μ.upd k (w.heap.size, n)) ∧ Fr G w (w.alloc x) := by
  obtain ⟨hlt, hfree⟩ := h.rid k hk
  have hle := Mu.upd_le (x := (w.heap.size, n)) hfree
  have hold : ∀ b, b < w.heap.size → (w.alloc x).heap[b]? = w.heap[b]? := fun b hb => by simp only [World.alloc]; rw [Array.getElem?_push, if_neg (Nat.ne_of_lt hb)]
  refine ⟨⟨fun j o' hj => ?_, fun j j' o1 o2 b n1 n2 hj hj' h1 h2 => ?_, fun j b n' hj => ?_, fun b hb => by have := h.glt b hb; rw [World.size_alloc]; omega,
    fun j hj => ⟨(h.rid j hj.1).1, by unfold Mu.upd; rw [if_neg hj.2]; exact (h.rid j hj.1).2⟩⟩, hle, ⟨rfl, rfl, rfl, by rw [World.size_alloc]; omega, fun b hb hl => hold b hl⟩⟩
  · simp only [Tr.get_put] at hj
    by_cases e : j = k
    · subst e
      rw [if_pos rfl] at hj
      cases hj
      exact ⟨_, _, x, Mu.upd_self _ _ _, fun hg => Nat.lt_irrefl _ (h.glt _ hg), by simp only [World.alloc]; rw [Array.getElem?_push, if_pos rfl], ho.mono hle⟩
    · rw [if_neg e] at hj
      obtain ⟨b, m, y, h1, h2, h3, h4⟩ := h.obj j o' hj
      exact ⟨b, m, y, hle _ _ h1, h2, (hold b (h.dom _ _ _ h1).2).trans h3, h4.mono hle⟩
  · simp only [Tr.get_put] at hj hj'
    unfold Mu.upd at h1 h2
    by_cases e : j = k
    · by_cases e' : j' = k
      · rw [e, e']
      · rw [if_pos e] at h1
        rw [if_neg e'] at h2
        cases h1
        exact absurd (h.dom _ _ _ h2).2 (Nat.lt_irrefl _)
    · rw [if_neg e] at h1 hj
      by_cases e' : j' = k
      · rw [if_pos e'] at h2
        cases h2
        exact absurd (h.dom _ _ _ h1).2 (Nat.lt_irrefl _)
      · rw [if_neg e'] at h2 hj'
        exact h.inj j j' o1 o2 b n1 n2 hj hj' h1 h2
  · unfold Mu.upd at hj
    by_cases e : j = k
    · rw [if_pos e] at hj; cases hj
      exact ⟨by rw [e]; exact hlt, by rw [World.size_alloc]; omega⟩
    · rw [if_neg e] at hj
      obtain ⟨h1, h2⟩ := h.dom _ _ _ hj
      exact ⟨h1, by rw [World.size_alloc]; omega⟩
/-- What was put aside comes back. -/
theorem GR.rejoin {Q : Nat → Prop} {H0 H' H2 : Heap} {w' : World} {G' : Gd} (h0 : GR G μ ρ H0 w) (hm : Mu.le μ μ') (hF : Fr G' w w') (hb : ∀ b, G.blk b → G'.blk b) (hi : ∀ k, G.ids k → G'.ids k)
    (hQ : ∀ k b n, Q k → μ k = some (b, n) → G'.blk b) (h : GR G' μ' ρ H' w') (hQ0 : ∀ k o, Q k → H2.tr.get k = some o → H0.tr.get k = some o) (hN : ∀ k o, ¬ Q k → H2.tr.get k = some o → H'.tr.get k = some o) (hn : H'.next ≤ H2.next) : GR G μ' ρ H2 w' := by
  refine ⟨fun k o hk => ?_, fun k k' o o' b n n' hk hk' h1 h2 => ?_, fun k b n hk => ⟨Nat.lt_of_lt_of_le (h.dom k b n hk).1 hn, (h.dom k b n hk).2⟩, fun b hg => h.glt b (hb b hg), fun k hk => ⟨Nat.lt_of_lt_of_le (h.rid k (hi k hk)).1 hn, (h.rid k (hi k hk)).2⟩⟩
  · by_cases hq : Q k
    · obtain ⟨b, n, x, h1, h2, h3, h4⟩ := h0.obj k o (hQ0 k o hq hk)
      exact ⟨b, n, x, hm _ _ h1, h2, (hF.block b (hQ k b n hq h1) (h0.dom _ _ _ h1).2).trans h3, h4.mono hm⟩
    · obtain ⟨b, n, x, h1, h2, h3, h4⟩ := h.obj k o (hN k o hq hk)
      exact ⟨b, n, x, h1, fun hg => h2 (hb b hg), h3, h4⟩
  · have old : ∀ k o, Q k → H2.tr.get k = some o → ∃ b n, μ k = some (b, n) := fun k o hq hk => let ⟨b, n, x, h1, _⟩ := h0.obj k o (hQ0 k o hq hk); ⟨b, n, h1⟩
    have cross : ∀ k k' o o' b n n', Q k → ¬ Q k' → H2.tr.get k = some o → H2.tr.get k' = some o' → μ' k = some (b, n) → μ' k' = some (b, n') → False := fun k k' o o' b n n' hq hq' hk hk' h1 h2 => by
      obtain ⟨b1, n1, e1⟩ := old k o hq hk
      have := hm _ _ e1
      rw [h1] at this; cases this
      obtain ⟨b2, n2, x, e2, e3, _⟩ := h.obj k' o' (hN k' o' hq' hk')
      rw [h2] at e2; cases e2
      exact e3 (hQ k _ _ hq e1)
    by_cases hq : Q k
    · by_cases hq' : Q k'
      · obtain ⟨b1, n1, e1⟩ := old k o hq hk
        obtain ⟨b2, n2, e2⟩ := old k' o' hq' hk'
        have a1 := hm _ _ e1
        have a2 := hm _ _ e2
        rw [h1] at a1; cases a1
        rw [h2] at a2; cases a2
        exact h0.inj k k' o o' _ _ _ (hQ0 k o hq hk) (hQ0 k' o' hq' hk') e1 e2
      · exact (cross k k' o o' b n n' hq hq' hk hk' h1 h2).elim
    · by_cases hq' : Q k'
      · exact (cross k' k o' o b n' n hq' hq hk' hk h2 h1).elim
      · exact h.inj k k' o o' b n n' (hN k o hq hk) (hN k' o' hq' hk') h1 h2
/-- The heap without a block, where all blocks that there are are left alone. -/
theorem GR.empty (w : World) : GR ⟨fun b => b < w.heap.size, fun _ => False⟩ (fun _ => none) ρ emptyH w :=
  ⟨fun k o hk => by simp [emptyH, Tr.get_e] at hk, fun k k' o o' b n n' hk => by simp [emptyH, Tr.get_e] at hk, (fun k b n (hk : (none : Option (Nat × Nat)) = some (b, n)) => by cases hk), fun b hb => hb, fun k (hk : False) => hk.elim⟩
end
end Vx
