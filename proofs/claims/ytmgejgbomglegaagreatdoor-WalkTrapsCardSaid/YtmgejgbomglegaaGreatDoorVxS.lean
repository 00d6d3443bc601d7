/-
  Strings, of which bytes may be unknown; bytes as strings; strings appended to bytes.
-/
import Derived.Test.YtmgejgbomglegaaGreatDoorVx8
import Derived.Lib.UnsafeStr
import Derived.Lib.MakeNoZero
import Derived.Laws.BytesString
namespace Vx
open Go
section
variable {P : Program} {G : Gd} {μ : Mu} {ρ : Nat → Int} {H : Heap} {w : World}

noncomputable def litB : List UInt8 → List SE
  | [] => []
  | b :: r => .lit (Int.ofNat b.toNat) :: litB r
theorem litB_val : ∀ l : List UInt8, (litB l).map (SE.val ρ) = l.map fun b => (b.toNat : Int)
  | [] => rfl
  | b :: r => by simp only [litB, List.map_cons, litB_val r, SE.val]; rfl
noncomputable def strL (x : AV) : Option (List SE) :=
  match x with
  | .str s => some (litB s.data.toList)
  | .ustr l => some l
  | _ => none
/-- The bytes of a string. -/
abbrev SV (ρ : Nat → Int) (l : List SE) (s : ByteArray) : Prop := l.map (SE.val ρ) = s.data.toList.map fun b => (b.toNat : Int)
theorem strL_ok {x : AV} {x' : Value} (hx : VR μ ρ x x') {l : List SE} (h : strL x = some l) : ∃ s : ByteArray, x' = .string s ∧ SV ρ l s := by
  unfold strL at h
  split at h
  · cases h; cases hx; exact ⟨_, rfl, litB_val _⟩
  · cases h; cases hx with | ustr h => exact ⟨_, rfl, h⟩
  · cases h
theorem SV.len {l : List SE} {s : ByteArray} (h : SV ρ l s) : l.length = s.size := by
  have := congrArg List.length h
  simpa using this
theorem vrs_ints (k : IntKind) : ∀ l : List SE, VRs μ ρ (l.map (AV.int k)) ((l.map (SE.val ρ)).map (Value.int k))
  | [] => .nil
  | _ :: r => .cons (.int rfl) (vrs_ints k r)
theorem SV.cells {l : List SE} {s : ByteArray} (h : SV ρ l s) : VRs μ ρ (l.map (AV.int .u8)) (Lib.strCells s) := by
  have e : Lib.strCells s = (l.map (SE.val ρ)).map (Value.int .u8) := by rw [h, Lib.strCells]; simp
  rw [e]; exact vrs_ints .u8 l

/-! ### Bytes as a string -/
noncomputable def wraps (op : BinOp) : Bool :=
  match op with
  | .add => true
  | .sub => true
  | .mul => true
  | .and => true
  | .or => true
  | .xor => true
  | .andNot => true
  | _ => false
noncomputable def isByteE (e : SE) : Bool :=
  match e with
  | .lit (.ofNat n) => Nat.ble n 255
  | .conv .u8 _ => true
  | .bin op .u8 _ _ => wraps op
  | _ => false
theorem wrap_u8 (x : Int) : 0 ≤ IntKind.u8.wrap x ∧ IntKind.u8.wrap x < 256 := by
  unfold IntKind.wrap
  simp [IntKind.signed, IntKind.bits]
  omega
theorem isByteE_ok {e : SE} (h : isByteE e = true) : 0 ≤ e.val ρ ∧ e.val ρ < 256 := by
  unfold isByteE at h
  split at h
  · rename_i n
    have := Nat.le_of_ble_eq_true h
    have e : (SE.lit (Int.ofNat n)).val ρ = (n : Int) := rfl
    omega
  · exact wrap_u8 _
  · unfold wraps at h
    split at h <;> first | (exact wrap_u8 _) | (cases h)
  · cases h
noncomputable def bytesOf : List AV → Option (List SE)
  | [] => some []
  | v :: r => match v with
    | .int .u8 e => match isByteE e with
      | true => match bytesOf r with
        | some l => some (e :: l)
        | none => none
      | false => none
    | _ => none
theorem bytesOf_ok : ∀ {l : List AV} {cs : List Value} {es : List SE}, VRs μ ρ l cs → bytesOf l = some es → cs = (es.map (SE.val ρ)).map (Value.int .u8) ∧ ∀ n ∈ es.map (SE.val ρ), 0 ≤ n ∧ n < 256
  | [], _, es, .nil, h => by
    simp only [bytesOf, Option.some.injEq] at h
    subst h; exact ⟨rfl, fun n hn => by simp at hn⟩
  | v :: r, _, es, .cons hv hs, h => by
    simp only [bytesOf] at h
    split at h
    · rename_i e
      split at h
      · rename_i hb
        split at h
        · rename_i l hl
          cases h
          obtain ⟨h1, h2⟩ := bytesOf_ok hs hl
          cases hv with
          | int he =>
          subst he
          refine ⟨by simp [h1], fun n hn => ?_⟩
          simp only [List.map_cons, List.mem_cons] at hn
          rcases hn with rfl | hn
          · exact isByteE_ok hb
          · exact h2 n hn
        · cases h
      · cases h
    · cases h
theorem push_bytes : ∀ (ns : List Int) (s : ByteArray), (ns.foldl (fun r n => r.push (UInt8.ofNat n.toNat)) s).data.toList = s.data.toList ++ ns.map fun n => UInt8.ofNat n.toNat
  | [], s => by simp
  | n :: r, s => by
    rw [List.foldl_cons, push_bytes r]
    simp [ByteArray.push]
theorem bytes_back {es : List SE} (hb : ∀ n ∈ es.map (SE.val ρ), 0 ≤ n ∧ n < 256) : SV ρ es ((es.map (SE.val ρ)).foldl (fun r n => r.push (UInt8.ofNat n.toNat)) ByteArray.empty) := by
  unfold SV
  rw [push_bytes]
  generalize es.map (SE.val ρ) = ns at hb
  show ns = ([] ++ ns.map fun n : Int => UInt8.ofNat n.toNat).map fun b : UInt8 => (b.toNat : Int)
  rw [List.nil_append, List.map_map]
  induction ns with
  | nil => rfl
  | cons n r ih =>
    have h1 := hb n List.mem_cons_self
    rw [List.map_cons, ← ih fun m hm => hb m (List.mem_cons_of_mem _ hm)]
    congr 1
    have h2 : n.toNat < UInt8.size := by show n.toNat < 256; omega
    simp only [Function.comp]
    rw [UInt8.toNat_ofNat_of_lt' h2]
    omega
/-- string(bytes). -/
noncomputable def bytesStrA (H : Heap) (x : AV) : Option AV :=
  match x with
  | .nils => some (.ustr [])
  | x => match srcA H x 1 with
    | some l => match bytesOf l with
      | some es => some (.ustr es)
      | none => none
    | none => none
theorem loadCells_at (a : Addr) (n : Nat) (cs : List Value) (hl : cs.length = n) (h : ∀ j v, cs[j]? = some v → w.cell? (a.add j) = some v) : (loadCells a n).run P w = .ok cs.toArray w := by
  subst hl
  have := run_firstCells_some (P := P) w 1 cs.length a cs.length cs.length cs (by simp) h
  simpa [Builtin.firstCells] using this
theorem bytesStr_ok (hG : GR G μ ρ H w) {x : AV} {x' : Value} (hx : VR μ ρ x x') {v : AV} (h : bytesStrA H x = some v) : ValOK P G μ ρ (Conv.bytesToString x') w v H := by
  unfold bytesStrA at h
  split at h
  · cases h; cases hx
    exact ValOK.pure hG (v' := .string .empty) rfl (.ustr rfl)
  · split at h
    · rename_i l hl
      split at h
      · rename_i es hes
        cases h
        obtain ⟨b, o, len, cap', k, cap, esz, cs, rfl, rfl, hcl, hnl, hcs, hvr⟩ := srcA_ok hG hx hl
        obtain ⟨h1, h2⟩ := bytesOf_ok hvr hes
        refine ValOK.pure hG ?_ (.ustr (bytes_back h2))
        refine run_bytesToString w _ _ _ _ ?_
        rw [← h1]
        exact loadCells_at _ _ _ (by omega) hcs
      · cases h
    · cases h

/-! ### Strings together; parts; likeness -/
noncomputable def litI (e : SE) : Option Int :=
  match e with
  | .lit n => some n
  | _ => none
noncomputable def bytesE : List SE → List SE → Option Bool
  | [], [] => some true
  | [], _ :: _ => some false
  | _ :: _, [] => some false
  | a :: r, b :: s => match litI a with
    | some x => match litI b with
      | some y => match ibeq x y with
        | true => bytesE r s
        | false => some false
      | none => none
    | none => none
theorem bytesE_ok : ∀ {l r : List SE} {b : Bool}, bytesE l r = some b → decide (l.map (SE.val ρ) = r.map (SE.val ρ)) = b
  | [], [], b, h => by simp only [bytesE, Option.some.injEq] at h; subst h; rfl
  | [], _ :: _, b, h => by simp only [bytesE, Option.some.injEq] at h; subst h; rfl
  | _ :: _, [], b, h => by simp only [bytesE, Option.some.injEq] at h; subst h; rfl
  | x :: l, y :: r, b, h => by
    simp only [bytesE] at h
    split at h
    · rename_i m hm
      split at h
      · rename_i n hn
        have hx : x.val ρ = m := by
          unfold litI at hm
          split at hm
          · cases hm; rfl
          · cases hm
        have hy : y.val ρ = n := by
          unfold litI at hn
          split at hn
          · cases hn; rfl
          · cases hn
        rw [List.map_cons, List.map_cons, hx, hy]
        rw [ibeq_eq] at h
        split at h
        · rename_i he
          have he : m = n := by simpa using he
          subst he
          have := bytesE_ok h
          simpa using this
        · rename_i he
          have he : m ≠ n := by simpa using he
          cases h
          simp [he]
      · cases h
    · cases h
theorem SV.eq {l r : List SE} {s u : ByteArray} (hl : SV ρ l s) (hr : SV ρ r u) {b : Bool} (h : bytesE l r = some b) : (s.data.toList == u.data.toList) = b := by
  have := bytesE_ok (ρ := ρ) h
  rw [hl, hr] at this
  rw [← this]
  have inj : ∀ x y : List UInt8, (x.map fun b => (b.toNat : Int)) = (y.map fun b => (b.toNat : Int)) → x = y := fun x y hxy => by
    refine List.map_inj_right (f := fun b : UInt8 => (b.toNat : Int)) (fun a b hab => ?_) |>.1 hxy
    have hab' : (a.toNat : Int) = (b.toNat : Int) := hab
    exact UInt8.toNat_inj.1 (Int.ofNat.inj hab')
  by_cases he : s.data.toList = u.data.toList
  · rw [he]; simp
  · have : ¬ (s.data.toList.map fun b => (b.toNat : Int)) = (u.data.toList.map fun b => (b.toNat : Int)) := fun hc => he (inj _ _ hc)
    rw [decide_eq_false this]
    exact beq_eq_false_iff_ne.2 he
theorem SV.append {l r : List SE} {s u : ByteArray} (hl : SV ρ l s) (hr : SV ρ r u) : SV ρ (l ++ r) (s ++ u) := by
  unfold SV at *
  rw [List.map_append, hl, hr, ← List.map_append]
  simp
theorem SV.extract {l : List SE} {s : ByteArray} (hl : SV ρ l s) (a b : Nat) : SV ρ ((l.drop a).take (b - a)) (s.extract a b) := by
  unfold SV at *
  rw [List.map_take, List.map_drop, hl, ← List.map_drop, ← List.map_take]
  congr 1
  simp [List.extract_eq_take_drop]
noncomputable def strBin (op : BinOp) (l r : List SE) : Option AV :=
  match op with
  | .add => match Nat.ble (Nat.add l.length r.length) 1099511627776 with
    | true => some (.ustr (l ++ r))
    | false => none
  | .eql => match bytesE l r with
    | some b => some (.bool b)
    | none => none
  | .neq => match bytesE l r with
    | some b => some (.bool (not b))
    | none => none
  | _ => none
theorem strBin_ok {l r : List SE} {s u : ByteArray} (hl : SV ρ l s) (hr : SV ρ r u) {op : BinOp} {v : AV} (h : strBin op l r = some v) : ∃ v', (Op.stringOp op s u).run P w = .ok v' w ∧ VR μ ρ v v' := by
  unfold strBin at h
  split at h
  · split at h
    · rename_i hle
      cases h
      have hle := Nat.le_of_ble_eq_true hle
      have h1 := hl.len
      have h2 := hr.len
      have hn : ¬ (((s.size + u.size : Nat) : Int) > IntKind.i64.max) := by
        have : IntKind.i64.max = 9223372036854775807 := rfl
        have e : Nat.add l.length r.length = l.length + r.length := rfl
        omega
      refine ⟨.string (s ++ u), ?_, .ustr (hl.append hr)⟩
      simp only [Op.stringOp]
      rw [if_neg hn]; rfl
    · cases h
  · split at h
    · rename_i b hb
      cases h
      refine ⟨.bool b, ?_, .bool⟩
      have := hl.eq hr hb
      simp only [Op.stringOp, ByteArray.toList_eq]
      rw [this]; rfl
    · cases h
  · split at h
    · rename_i b hb
      cases h
      refine ⟨.bool (!b), ?_, .bool⟩
      have := hl.eq hr hb
      simp only [Op.stringOp, ByteArray.toList_eq]
      rw [this]; rfl
    · cases h
  · cases h
end
end Vx
