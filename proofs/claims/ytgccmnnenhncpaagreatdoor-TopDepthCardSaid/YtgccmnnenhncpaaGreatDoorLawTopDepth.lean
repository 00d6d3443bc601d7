/-
  TopDepth: what a call of it comes to.
-/
import Derived.Test.YtgccmnnenhncpaaGreatDoorLawTopDepthC0
import Derived.Test.YtgccmnnenhncpaaGreatDoorLawTopDepthC1
import Derived.Test.YtgccmnnenhncpaaGreatDoorLawTopDepthC2
import Derived.Test.YtgccmnnenhncpaaGreatDoorLawTopDepthC3
import Derived.Test.YtgccmnnenhncpaaGreatDoorLawTopDepthC4
import Derived.Test.YtgccmnnenhncpaaGreatDoorLawTopDepthC5
import Derived.Test.YtgccmnnenhncpaaGreatDoorLawTopDepthC6
import Derived.Test.YtgccmnnenhncpaaGreatDoorLawTopDepthC7
namespace Go.Proofs.YtgccmnnenhncpaaGreatDoor
open Go Vx

theorem tdep_U (k : Nat) (hk : k < 32) : runS 16 tdepL [⟨1, 31, k, 31⟩] [.and 0 31 k] 7 [.int .i64 (.var 0), .int .i64 (.var 1)] = true := by
  rcases Nat.lt_or_ge k 16 with gk | gk
  · rcases Nat.lt_or_ge k 8 with gk | gk
    · rcases Nat.lt_or_ge k 4 with gk | gk
      · rcases Nat.lt_or_ge k 2 with gk | gk
        · rcases Nat.lt_or_ge k 1 with gk | gk
          · obtain rfl : k = 0 := by omega
            exact tdep_U_0
          · obtain rfl : k = 1 := by omega
            exact tdep_U_1
        · rcases Nat.lt_or_ge k 3 with gk | gk
          · obtain rfl : k = 2 := by omega
            exact tdep_U_2
          · obtain rfl : k = 3 := by omega
            exact tdep_U_3
      · rcases Nat.lt_or_ge k 6 with gk | gk
        · rcases Nat.lt_or_ge k 5 with gk | gk
          · obtain rfl : k = 4 := by omega
            exact tdep_U_4
          · obtain rfl : k = 5 := by omega
            exact tdep_U_5
        · rcases Nat.lt_or_ge k 7 with gk | gk
          · obtain rfl : k = 6 := by omega
            exact tdep_U_6
          · obtain rfl : k = 7 := by omega
            exact tdep_U_7
    · rcases Nat.lt_or_ge k 12 with gk | gk
      · rcases Nat.lt_or_ge k 10 with gk | gk
        · rcases Nat.lt_or_ge k 9 with gk | gk
          · obtain rfl : k = 8 := by omega
            exact tdep_U_8
          · obtain rfl : k = 9 := by omega
            exact tdep_U_9
        · rcases Nat.lt_or_ge k 11 with gk | gk
          · obtain rfl : k = 10 := by omega
            exact tdep_U_10
          · obtain rfl : k = 11 := by omega
            exact tdep_U_11
      · rcases Nat.lt_or_ge k 14 with gk | gk
        · rcases Nat.lt_or_ge k 13 with gk | gk
          · obtain rfl : k = 12 := by omega
            exact tdep_U_12
          · obtain rfl : k = 13 := by omega
            exact tdep_U_13
        · rcases Nat.lt_or_ge k 15 with gk | gk
          · obtain rfl : k = 14 := by omega
            exact tdep_U_14
          · obtain rfl : k = 15 := by omega
            exact tdep_U_15
  · rcases Nat.lt_or_ge k 24 with gk | gk
    · rcases Nat.lt_or_ge k 20 with gk | gk
      · rcases Nat.lt_or_ge k 18 with gk | gk
        · rcases Nat.lt_or_ge k 17 with gk | gk
          · obtain rfl : k = 16 := by omega
            exact tdep_U_16
          · obtain rfl : k = 17 := by omega
            exact tdep_U_17
        · rcases Nat.lt_or_ge k 19 with gk | gk
          · obtain rfl : k = 18 := by omega
            exact tdep_U_18
          · obtain rfl : k = 19 := by omega
            exact tdep_U_19
      · rcases Nat.lt_or_ge k 22 with gk | gk
        · rcases Nat.lt_or_ge k 21 with gk | gk
          · obtain rfl : k = 20 := by omega
            exact tdep_U_20
          · obtain rfl : k = 21 := by omega
            exact tdep_U_21
        · rcases Nat.lt_or_ge k 23 with gk | gk
          · obtain rfl : k = 22 := by omega
            exact tdep_U_22
          · obtain rfl : k = 23 := by omega
            exact tdep_U_23
    · rcases Nat.lt_or_ge k 28 with gk | gk
      · rcases Nat.lt_or_ge k 26 with gk | gk
        · rcases Nat.lt_or_ge k 25 with gk | gk
          · obtain rfl : k = 24 := by omega
            exact tdep_U_24
          · obtain rfl : k = 25 := by omega
            exact tdep_U_25
        · rcases Nat.lt_or_ge k 27 with gk | gk
          · obtain rfl : k = 26 := by omega
            exact tdep_U_26
          · obtain rfl : k = 27 := by omega
            exact tdep_U_27
      · rcases Nat.lt_or_ge k 30 with gk | gk
        · rcases Nat.lt_or_ge k 29 with gk | gk
          · obtain rfl : k = 28 := by omega
            exact tdep_U_28
          · obtain rfl : k = 29 := by omega
            exact tdep_U_29
        · rcases Nat.lt_or_ge k 31 with gk | gk
          · obtain rfl : k = 30 := by omega
            exact tdep_U_30
          · obtain rfl : k = 31 := by omega
            exact tdep_U_31
theorem tdep_V (e : Nat) (he : e < 31) : runS 16 tdepL [⟨0, 31, e + 1, 31⟩] [.and 1 31 e] 7 [.int .i64 (.var 0), .int .i64 (.var 1)] = true := by
  rcases Nat.lt_or_ge e 15 with ge | ge
  · rcases Nat.lt_or_ge e 7 with ge | ge
    · rcases Nat.lt_or_ge e 3 with ge | ge
      · rcases Nat.lt_or_ge e 1 with ge | ge
        · obtain rfl : e = 0 := by omega
          exact tdep_V_0
        · rcases Nat.lt_or_ge e 2 with ge | ge
          · obtain rfl : e = 1 := by omega
            exact tdep_V_1
          · obtain rfl : e = 2 := by omega
            exact tdep_V_2
      · rcases Nat.lt_or_ge e 5 with ge | ge
        · rcases Nat.lt_or_ge e 4 with ge | ge
          · obtain rfl : e = 3 := by omega
            exact tdep_V_3
          · obtain rfl : e = 4 := by omega
            exact tdep_V_4
        · rcases Nat.lt_or_ge e 6 with ge | ge
          · obtain rfl : e = 5 := by omega
            exact tdep_V_5
          · obtain rfl : e = 6 := by omega
            exact tdep_V_6
    · rcases Nat.lt_or_ge e 11 with ge | ge
      · rcases Nat.lt_or_ge e 9 with ge | ge
        · rcases Nat.lt_or_ge e 8 with ge | ge
          · obtain rfl : e = 7 := by omega
            exact tdep_V_7
          · obtain rfl : e = 8 := by omega
            exact tdep_V_8
        · rcases Nat.lt_or_ge e 10 with ge | ge
          · obtain rfl : e = 9 := by omega
            exact tdep_V_9
          · obtain rfl : e = 10 := by omega
            exact tdep_V_10
      · rcases Nat.lt_or_ge e 13 with ge | ge
        · rcases Nat.lt_or_ge e 12 with ge | ge
          · obtain rfl : e = 11 := by omega
            exact tdep_V_11
          · obtain rfl : e = 12 := by omega
            exact tdep_V_12
        · rcases Nat.lt_or_ge e 14 with ge | ge
          · obtain rfl : e = 13 := by omega
            exact tdep_V_13
          · obtain rfl : e = 14 := by omega
            exact tdep_V_14
  · rcases Nat.lt_or_ge e 23 with ge | ge
    · rcases Nat.lt_or_ge e 19 with ge | ge
      · rcases Nat.lt_or_ge e 17 with ge | ge
        · rcases Nat.lt_or_ge e 16 with ge | ge
          · obtain rfl : e = 15 := by omega
            exact tdep_V_15
          · obtain rfl : e = 16 := by omega
            exact tdep_V_16
        · rcases Nat.lt_or_ge e 18 with ge | ge
          · obtain rfl : e = 17 := by omega
            exact tdep_V_17
          · obtain rfl : e = 18 := by omega
            exact tdep_V_18
      · rcases Nat.lt_or_ge e 21 with ge | ge
        · rcases Nat.lt_or_ge e 20 with ge | ge
          · obtain rfl : e = 19 := by omega
            exact tdep_V_19
          · obtain rfl : e = 20 := by omega
            exact tdep_V_20
        · rcases Nat.lt_or_ge e 22 with ge | ge
          · obtain rfl : e = 21 := by omega
            exact tdep_V_21
          · obtain rfl : e = 22 := by omega
            exact tdep_V_22
    · rcases Nat.lt_or_ge e 27 with ge | ge
      · rcases Nat.lt_or_ge e 25 with ge | ge
        · rcases Nat.lt_or_ge e 24 with ge | ge
          · obtain rfl : e = 23 := by omega
            exact tdep_V_23
          · obtain rfl : e = 24 := by omega
            exact tdep_V_24
        · rcases Nat.lt_or_ge e 26 with ge | ge
          · obtain rfl : e = 25 := by omega
            exact tdep_V_25
          · obtain rfl : e = 26 := by omega
            exact tdep_V_26
      · rcases Nat.lt_or_ge e 29 with ge | ge
        · rcases Nat.lt_or_ge e 28 with ge | ge
          · obtain rfl : e = 27 := by omega
            exact tdep_V_27
          · obtain rfl : e = 28 := by omega
            exact tdep_V_28
        · rcases Nat.lt_or_ge e 30 with ge | ge
          · obtain rfl : e = 29 := by omega
            exact tdep_V_29
          · obtain rfl : e = 30 := by omega
            exact tdep_V_30
theorem iv_of {ρ : Env} {i m lo hi x : Nat} (f : binVal .and .i64 (ρ i) (m : Int) = (x : Int)) (h1 : lo ≤ x) (h2 : x ≤ hi) : (IV.mk i m lo hi).OK ρ := by
  show (lo : Int) ≤ binVal .and .i64 (ρ i) (m : Int) ∧ binVal .and .i64 (ρ i) (m : Int) ≤ (hi : Int)
  rw [f]; omega
theorem tdep_any (a b : Int) (w : World) : Calls Tryz.prog 7 #[.int .i64 a, .int .i64 b] w fun e w' => e = .returned (.bool true) ∧ Go.RowKit.Below w.heap.size w w' := by
  obtain ⟨k, hk, fk⟩ := mask_and a 31 (by decide)
  obtain ⟨e, he, fe⟩ := mask_and b 31 (by decide)
  have kk : (MK.and 0 31 k).OK (rhoL [a, b]) := fk
  have ke : (MK.and 1 31 e).OK (rhoL [a, b]) := fe
  have vr : VRs (fun _ => none) (rhoL [a, b]) [.int .i64 (.var 0), .int .i64 (.var 1)] [.int .i64 a, .int .i64 b] := .cons (.int rfl) (.cons (.int rfl) .nil)
  by_cases h1 : k ≤ e
  · exact runS_calls awake_top (ρ := rhoL [a, b]) (tdep_sums _) (ivs_cons (c := ⟨1, 31, k, 31⟩) (iv_of ke (by omega) (by omega)) ivs_nil) (all_cons kk all_nil) (by decide) (tdep_U k (by omega)) vr w
  · exact runS_calls awake_top (ρ := rhoL [a, b]) (tdep_sums _) (ivs_cons (c := ⟨0, 31, e + 1, 31⟩) (iv_of kk (by omega) (by omega)) ivs_nil) (all_cons ke all_nil) (by decide) (tdep_V e (by omega)) vr w
end Go.Proofs.YtgccmnnenhncpaaGreatDoor
