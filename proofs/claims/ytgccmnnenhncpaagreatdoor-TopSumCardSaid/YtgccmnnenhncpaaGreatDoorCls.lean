/-
  Classes of inputs: what the laws share that is of no one program.
-/
import Derived.Test.YtgccmnnenhncpaaGreatDoorVmF
namespace Go.Proofs.YtgccmnnenhncpaaGreatDoor
open Go Vx

noncomputable def rhoL (l : List Int) : Env := ⟨fun i => l.getD i 0, 0, 0, 0, fun _ => ByteArray.empty⟩
theorem all_nil {ρ : Env} : ∀ c ∈ ([] : List MK), c.OK ρ := fun c hc => by cases hc
theorem all_cons {ρ : Env} {c : MK} {l : List MK} (h : c.OK ρ) (hs : ∀ c ∈ l, c.OK ρ) : ∀ x ∈ c :: l, x.OK ρ := fun x hx => by
  rcases List.mem_cons.1 hx with rfl | hx
  · exact h
  · exact hs x hx
theorem ivs_nil {ρ : Env} : ∀ c ∈ ([] : List IV), c.OK ρ := fun c hc => by cases hc
theorem ivs_cons {ρ : Env} {c : IV} {l : List IV} (h : c.OK ρ) (hs : ∀ c ∈ l, c.OK ρ) : ∀ x ∈ c :: l, x.OK ρ := fun x hx => by
  rcases List.mem_cons.1 hx with rfl | hx
  · exact h
  · exact hs x hx
/-- Words of 32 bits: zero; the others by the length of what encodes them with a sign. -/
noncomputable def wLo (q : Nat) : Nat :=
  match q with
  | 0 => 0
  | 1 => 1
  | 2 => 64
  | 3 => 8192
  | 4 => 1048576
  | 5 => 134217728
  | 6 => 2147483648
  | 7 => 4160749568
  | 8 => 4293918720
  | 9 => 4294959104
  | _ => 4294967232
noncomputable def wHi (q : Nat) : Nat :=
  match q with
  | 0 => 0
  | 1 => 63
  | 2 => 8191
  | 3 => 1048575
  | 4 => 134217727
  | 5 => 2147483647
  | 6 => 4160749567
  | 7 => 4293918719
  | 8 => 4294959103
  | 9 => 4294967231
  | _ => 4294967295
theorem w_cls (v : Int) (h : 0 ≤ v ∧ v ≤ 4294967295) : ∃ q : Nat, q < 11 ∧ (wLo q : Int) ≤ v ∧ v ≤ (wHi q : Int) := by
  by_cases h0 : v ≤ 0
  · exact ⟨0, by omega, h.1, h0⟩
  by_cases h1 : v ≤ 63
  · exact ⟨1, by omega, show (1 : Int) ≤ v by omega, h1⟩
  by_cases h2 : v ≤ 8191
  · exact ⟨2, by omega, show (64 : Int) ≤ v by omega, h2⟩
  by_cases h3 : v ≤ 1048575
  · exact ⟨3, by omega, show (8192 : Int) ≤ v by omega, h3⟩
  by_cases h4 : v ≤ 134217727
  · exact ⟨4, by omega, show (1048576 : Int) ≤ v by omega, h4⟩
  by_cases h5 : v ≤ 2147483647
  · exact ⟨5, by omega, show (134217728 : Int) ≤ v by omega, h5⟩
  by_cases h6 : v ≤ 4160749567
  · exact ⟨6, by omega, show (2147483648 : Int) ≤ v by omega, h6⟩
  by_cases h7 : v ≤ 4293918719
  · exact ⟨7, by omega, show (4160749568 : Int) ≤ v by omega, h7⟩
  by_cases h8 : v ≤ 4294959103
  · exact ⟨8, by omega, show (4293918720 : Int) ≤ v by omega, h8⟩
  by_cases h9 : v ≤ 4294967231
  · exact ⟨9, by omega, show (4294959104 : Int) ≤ v by omega, h9⟩
  · exact ⟨10, by omega, show (4294967232 : Int) ≤ v by omega, h.2⟩
/-- Words that are zero, and those that are not. -/
noncomputable def zLo (q : Nat) : Nat :=
  match q with
  | 0 => 0
  | _ => 1
noncomputable def zHi (q : Nat) : Nat :=
  match q with
  | 0 => 0
  | _ => 4294967295
theorem z_cls (v : Int) (h : 0 ≤ v ∧ v ≤ 4294967295) : ∃ q : Nat, q < 2 ∧ (zLo q : Int) ≤ v ∧ v ≤ (zHi q : Int) := by
  by_cases h0 : v ≤ 0
  · exact ⟨0, by omega, h.1, h0⟩
  · exact ⟨1, by omega, show (1 : Int) ≤ v by omega, h.2⟩
end Go.Proofs.YtgccmnnenhncpaaGreatDoor
