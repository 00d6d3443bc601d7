/-
  RunKeeps: what a call of it comes to.
-/
import Derived.Test.YtgccmnnenhncpaaGreatDoorLawRunKeepsC0
import Derived.Test.YtgccmnnenhncpaaGreatDoorLawRunKeepsC1
import Derived.Test.YtgccmnnenhncpaaGreatDoorLawRunKeepsC2
import Derived.Test.YtgccmnnenhncpaaGreatDoorLawRunKeepsC3
import Derived.Test.YtgccmnnenhncpaaGreatDoorLawRunKeepsC4
import Derived.Test.YtgccmnnenhncpaaGreatDoorLawRunKeepsC5
import Derived.Test.YtgccmnnenhncpaaGreatDoorLawRunKeepsC6
import Derived.Test.YtgccmnnenhncpaaGreatDoorLawRunKeepsC7
import Derived.Test.YtgccmnnenhncpaaGreatDoorLawRunKeepsC8
import Derived.Test.YtgccmnnenhncpaaGreatDoorLawRunKeepsC9
import Derived.Test.YtgccmnnenhncpaaGreatDoorLawRunKeepsC10
import Derived.Test.YtgccmnnenhncpaaGreatDoorLawRunKeepsC11
namespace Go.Proofs.YtgccmnnenhncpaaGreatDoor
open Go Vx

theorem rkee_N (n e : Nat) (s : Bool) (hn : n < 21) (he : e < 2) : ckM 8 [] [.and 0 1 e] 5 [.inp (.lit n) n, .int .i64 (.var 0), .bool s] = true := by
  rcases Nat.lt_or_ge n 10 with gn | gn
  · rcases Nat.lt_or_ge n 5 with gn | gn
    · rcases Nat.lt_or_ge n 2 with gn | gn
      · rcases Nat.lt_or_ge n 1 with gn | gn
        · obtain rfl : n = 0 := by omega
          match e, he, s with
          | 0, _, true => exact rkee_0_0_t
          | 0, _, false => exact rkee_0_0_f
          | 1, _, true => exact rkee_0_1_t
          | 1, _, false => exact rkee_0_1_f
        · obtain rfl : n = 1 := by omega
          match e, he, s with
          | 0, _, true => exact rkee_1_0_t
          | 0, _, false => exact rkee_1_0_f
          | 1, _, true => exact rkee_1_1_t
          | 1, _, false => exact rkee_1_1_f
      · rcases Nat.lt_or_ge n 3 with gn | gn
        · obtain rfl : n = 2 := by omega
          match e, he, s with
          | 0, _, true => exact rkee_2_0_t
          | 0, _, false => exact rkee_2_0_f
          | 1, _, true => exact rkee_2_1_t
          | 1, _, false => exact rkee_2_1_f
        · rcases Nat.lt_or_ge n 4 with gn | gn
          · obtain rfl : n = 3 := by omega
            match e, he, s with
            | 0, _, true => exact rkee_3_0_t
            | 0, _, false => exact rkee_3_0_f
            | 1, _, true => exact rkee_3_1_t
            | 1, _, false => exact rkee_3_1_f
          · obtain rfl : n = 4 := by omega
            match e, he, s with
            | 0, _, true => exact rkee_4_0_t
            | 0, _, false => exact rkee_4_0_f
            | 1, _, true => exact rkee_4_1_t
            | 1, _, false => exact rkee_4_1_f
    · rcases Nat.lt_or_ge n 7 with gn | gn
      · rcases Nat.lt_or_ge n 6 with gn | gn
        · obtain rfl : n = 5 := by omega
          match e, he, s with
          | 0, _, true => exact rkee_5_0_t
          | 0, _, false => exact rkee_5_0_f
          | 1, _, true => exact rkee_5_1_t
          | 1, _, false => exact rkee_5_1_f
        · obtain rfl : n = 6 := by omega
          match e, he, s with
          | 0, _, true => exact rkee_6_0_t
          | 0, _, false => exact rkee_6_0_f
          | 1, _, true => exact rkee_6_1_t
          | 1, _, false => exact rkee_6_1_f
      · rcases Nat.lt_or_ge n 8 with gn | gn
        · obtain rfl : n = 7 := by omega
          match e, he, s with
          | 0, _, true => exact rkee_7_0_t
          | 0, _, false => exact rkee_7_0_f
          | 1, _, true => exact rkee_7_1_t
          | 1, _, false => exact rkee_7_1_f
        · rcases Nat.lt_or_ge n 9 with gn | gn
          · obtain rfl : n = 8 := by omega
            match e, he, s with
            | 0, _, true => exact rkee_8_0_t
            | 0, _, false => exact rkee_8_0_f
            | 1, _, true => exact rkee_8_1_t
            | 1, _, false => exact rkee_8_1_f
          · obtain rfl : n = 9 := by omega
            match e, he, s with
            | 0, _, true => exact rkee_9_0_t
            | 0, _, false => exact rkee_9_0_f
            | 1, _, true => exact rkee_9_1_t
            | 1, _, false => exact rkee_9_1_f
  · rcases Nat.lt_or_ge n 15 with gn | gn
    · rcases Nat.lt_or_ge n 12 with gn | gn
      · rcases Nat.lt_or_ge n 11 with gn | gn
        · obtain rfl : n = 10 := by omega
          match e, he, s with
          | 0, _, true => exact rkee_10_0_t
          | 0, _, false => exact rkee_10_0_f
          | 1, _, true => exact rkee_10_1_t
          | 1, _, false => exact rkee_10_1_f
        · obtain rfl : n = 11 := by omega
          match e, he, s with
          | 0, _, true => exact rkee_11_0_t
          | 0, _, false => exact rkee_11_0_f
          | 1, _, true => exact rkee_11_1_t
          | 1, _, false => exact rkee_11_1_f
      · rcases Nat.lt_or_ge n 13 with gn | gn
        · obtain rfl : n = 12 := by omega
          match e, he, s with
          | 0, _, true => exact rkee_12_0_t
          | 0, _, false => exact rkee_12_0_f
          | 1, _, true => exact rkee_12_1_t
          | 1, _, false => exact rkee_12_1_f
        · rcases Nat.lt_or_ge n 14 with gn | gn
          · obtain rfl : n = 13 := by omega
            match e, he, s with
            | 0, _, true => exact rkee_13_0_t
            | 0, _, false => exact rkee_13_0_f
            | 1, _, true => exact rkee_13_1_t
            | 1, _, false => exact rkee_13_1_f
          · obtain rfl : n = 14 := by omega
            match e, he, s with
            | 0, _, true => exact rkee_14_0_t
            | 0, _, false => exact rkee_14_0_f
            | 1, _, true => exact rkee_14_1_t
            | 1, _, false => exact rkee_14_1_f
    · rcases Nat.lt_or_ge n 18 with gn | gn
      · rcases Nat.lt_or_ge n 16 with gn | gn
        · obtain rfl : n = 15 := by omega
          match e, he, s with
          | 0, _, true => exact rkee_15_0_t
          | 0, _, false => exact rkee_15_0_f
          | 1, _, true => exact rkee_15_1_t
          | 1, _, false => exact rkee_15_1_f
        · rcases Nat.lt_or_ge n 17 with gn | gn
          · obtain rfl : n = 16 := by omega
            match e, he, s with
            | 0, _, true => exact rkee_16_0_t
            | 0, _, false => exact rkee_16_0_f
            | 1, _, true => exact rkee_16_1_t
            | 1, _, false => exact rkee_16_1_f
          · obtain rfl : n = 17 := by omega
            match e, he, s with
            | 0, _, true => exact rkee_17_0_t
            | 0, _, false => exact rkee_17_0_f
            | 1, _, true => exact rkee_17_1_t
            | 1, _, false => exact rkee_17_1_f
      · rcases Nat.lt_or_ge n 19 with gn | gn
        · obtain rfl : n = 18 := by omega
          match e, he, s with
          | 0, _, true => exact rkee_18_0_t
          | 0, _, false => exact rkee_18_0_f
          | 1, _, true => exact rkee_18_1_t
          | 1, _, false => exact rkee_18_1_f
        · rcases Nat.lt_or_ge n 20 with gn | gn
          · obtain rfl : n = 19 := by omega
            match e, he, s with
            | 0, _, true => exact rkee_19_0_t
            | 0, _, false => exact rkee_19_0_f
            | 1, _, true => exact rkee_19_1_t
            | 1, _, false => exact rkee_19_1_f
          · obtain rfl : n = 20 := by omega
            match e, he, s with
            | 0, _, true => exact rkee_20_0_t
            | 0, _, false => exact rkee_20_0_f
            | 1, _, true => exact rkee_20_1_t
            | 1, _, false => exact rkee_20_1_f
theorem rkee_L (e : Nat) (s : Bool) (he : e < 2) : ckM 8 [⟨true, .lss, 1, 0, true⟩, ⟨true, .lss, 1, 1, true⟩, ⟨true, .lss, 1, 2, true⟩, ⟨true, .lss, 1, 3, true⟩, ⟨true, .lss, 1, 4, true⟩, ⟨true, .lss, 1, 5, true⟩, ⟨true, .lss, 1, 6, true⟩, ⟨true, .lss, 1, 7, true⟩, ⟨true, .lss, 1, 8, true⟩, ⟨true, .lss, 1, 9, true⟩, ⟨true, .lss, 1, 10, true⟩, ⟨true, .lss, 1, 11, true⟩, ⟨true, .lss, 1, 12, true⟩, ⟨true, .lss, 1, 13, true⟩, ⟨true, .lss, 1, 14, true⟩, ⟨true, .lss, 1, 15, true⟩, ⟨true, .lss, 1, 16, true⟩, ⟨true, .lss, 1, 17, true⟩, ⟨true, .lss, 1, 18, true⟩, ⟨true, .lss, 1, 19, true⟩, ⟨true, .lss, 1, 20, true⟩] [.and 0 1 e] 5 [.inp (.var 1) 20, .int .i64 (.var 0), .bool s] = true := by
  match e, he, s with
  | 0, _, true => exact rkee_L_0_t
  | 0, _, false => exact rkee_L_0_f
  | 1, _, true => exact rkee_L_1_t
  | 1, _, false => exact rkee_L_1_f
/-- What is not known: the engine, the length, the numbers. -/
noncomputable def keepE (a : Int) (n : Nat) (zs : Nat → Int) (b0 o0 m : Nat) : Env := ⟨fun i => match i with
  | 0 => a
  | 1 => (n : Int)
  | i => zs (i - 8), b0, o0, m⟩
theorem rkee_any (x : Option Addr) (n cap : Nat) (zs : Nat → Int) (a : Int) (s : Bool) (w : World) (hx : n = 0 ∨ ∃ b0 o0, x = some ⟨b0, o0, none⟩ ∧ b0 < w.heap.size ∧ ∀ j, j < n → w.cell? ⟨b0, o0 + j, none⟩ = some (.int .i64 (zs j))) :
    Calls Tryz.prog 5 #[.slice x n cap, .int .i64 a, .bool s] w fun e w' => e = .returned (.bool true) ∧ Go.RowKit.Below w.heap.size w w' := by
  obtain ⟨b0, o0, hx⟩ : ∃ b0 o0, n = 0 ∨ (x = some ⟨b0, o0, none⟩ ∧ b0 < w.heap.size ∧ ∀ j, j < n → w.cell? ⟨b0, o0 + j, none⟩ = some (.int .i64 (zs j))) := by
    rcases hx with h | ⟨b0, o0, h⟩
    · exact ⟨0, 0, .inl h⟩
    · exact ⟨b0, o0, .inr h⟩
  obtain ⟨e, he, fe⟩ := mask_and a 1 (by decide)
  have inp : ∀ m, m ≤ n → InpOK ⟨fun b => b < w.heap.size, fun _ => False⟩ (keepE a n zs b0 o0 m) w := fun m hm => ⟨fun hc => by
      rcases hx with rfl | ⟨_, h, _⟩
      · have hc : 0 < m := hc
        omega
      · exact h, fun j hj => by
      have hj : j < m := hj
      rcases hx with rfl | ⟨_, _, h⟩
      · omega
      · have e1 : (keepE a n zs b0 o0 m) (8 + j) = zs j := by
          show (match 8 + j with
            | 0 => a
            | 1 => (n : Int)
            | i => zs (i - 8)) = zs j
          rw [show 8 + j = j + 6 + 2 by omega]
          show zs (j + 6 + 2 - 8) = zs j
          rw [show j + 6 + 2 - 8 = j by omega]
        rw [e1]
        exact h j (by omega)⟩
  have vx : ∀ m (l : SE), m ≤ n → l.val (keepE a n zs b0 o0 m) = (n : Int) → VR (fun _ => none) (keepE a n zs b0 o0 m) (.inp l m) (.slice x n cap) := fun m l hm hl => .inp hl hm (by
    rcases hx with rfl | ⟨h, _, _⟩
    · exact .inl (by omega)
    · exact .inr ⟨h, Nat.le_refl _⟩)
  by_cases hn : n < 21
  · exact ckM_calls awake_run (ρ := keepE a n zs b0 o0 n) cks_nil (all_cons (c := .and 0 1 e) fe all_nil) (by decide) (rkee_N n e s hn (by omega)) (.cons (vx n _ (Nat.le_refl _) rfl) (.cons (.int rfl) (.cons .bool .nil))) w (inp n (Nat.le_refl _))
  · have ck : ∀ i : Nat, i < 21 → (CK.mk true .lss 1 (i : Int) true).OK (keepE a n zs b0 o0 20) := fun i hi P w => by
      have h : ((i : Int) < (n : Int)) := by omega
      show (Op.intCmp .lss (i : Int) (n : Int)).run P w = _
      simp [Op.intCmp, h]
    exact ckM_calls awake_run (ρ := keepE a n zs b0 o0 20) (cks_cons (ck 0 (by omega)) (cks_cons (ck 1 (by omega)) (cks_cons (ck 2 (by omega)) (cks_cons (ck 3 (by omega)) (cks_cons (ck 4 (by omega)) (cks_cons (ck 5 (by omega)) (cks_cons (ck 6 (by omega)) (cks_cons (ck 7 (by omega)) (cks_cons (ck 8 (by omega)) (cks_cons (ck 9 (by omega)) (cks_cons (ck 10 (by omega)) (cks_cons (ck 11 (by omega)) (cks_cons (ck 12 (by omega)) (cks_cons (ck 13 (by omega)) (cks_cons (ck 14 (by omega)) (cks_cons (ck 15 (by omega)) (cks_cons (ck 16 (by omega)) (cks_cons (ck 17 (by omega)) (cks_cons (ck 18 (by omega)) (cks_cons (ck 19 (by omega)) (cks_cons (ck 20 (by omega)) cks_nil))))))))))))))))))))) (all_cons (c := .and 0 1 e) fe all_nil) (by decide) (rkee_L e s (by omega)) (.cons (vx 20 _ (by omega) rfl) (.cons (.int rfl) (.cons .bool .nil))) w (inp 20 (by omega))
end Go.Proofs.YtgccmnnenhncpaaGreatDoor
