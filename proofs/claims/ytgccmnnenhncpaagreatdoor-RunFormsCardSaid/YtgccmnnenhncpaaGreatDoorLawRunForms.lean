/-
  RunForms: what a call of it comes to.
-/
import Derived.Test.YtgccmnnenhncpaaGreatDoorLawRunFormsC0
import Derived.Test.YtgccmnnenhncpaaGreatDoorLawRunFormsC1
import Derived.Test.YtgccmnnenhncpaaGreatDoorLawRunFormsC2
import Derived.Test.YtgccmnnenhncpaaGreatDoorLawRunFormsC3
import Derived.Test.YtgccmnnenhncpaaGreatDoorLawRunFormsC4
import Derived.Test.YtgccmnnenhncpaaGreatDoorLawRunFormsC5
import Derived.Test.YtgccmnnenhncpaaGreatDoorLawRunFormsC6
import Derived.Test.YtgccmnnenhncpaaGreatDoorLawRunFormsC7
namespace Go.Proofs.YtgccmnnenhncpaaGreatDoor
open Go Vx

theorem rfrm_E (k : Nat) (hk : k < 4) : ckM 8 [⟨false, .eql, 0, 0, false⟩, ⟨false, .eql, 0, 1, false⟩] [.and 4 3 k] 4 [.int .i64 (.var 0), .agg [.int .i64 (.var 1), .int .i64 (.var 2), .int .i64 (.var 3), .anys, .anys], .int .i64 (.var 4)] = true := by
  match k, hk with
  | 0, _ => exact rfrm_E_0
  | 1, _ => exact rfrm_E_1
  | 2, _ => exact rfrm_E_2
  | 3, _ => exact rfrm_E_3
theorem rfrm_W0l (k : Nat) (hk : k < 4) : ckM 8 [⟨false, .eql, 0, 0, true⟩, ⟨false, .geq, 1, 0, false⟩] [.and 4 3 k] 4 [.int .i64 (.var 0), .agg [.int .i64 (.var 1), .int .i64 (.var 2), .int .i64 (.var 3), .anys, .anys], .int .i64 (.var 4)] = true := by
  match k, hk with
  | 0, _ => exact rfrm_W0l_0
  | 1, _ => exact rfrm_W0l_1
  | 2, _ => exact rfrm_W0l_2
  | 3, _ => exact rfrm_W0l_3
theorem rfrm_W0h (k : Nat) (hk : k < 4) : ckM 8 [⟨false, .eql, 0, 0, true⟩, ⟨false, .geq, 1, 0, true⟩, ⟨false, .leq, 1, 16, false⟩] [.and 4 3 k] 4 [.int .i64 (.var 0), .agg [.int .i64 (.var 1), .int .i64 (.var 2), .int .i64 (.var 3), .anys, .anys], .int .i64 (.var 4)] = true := by
  match k, hk with
  | 0, _ => exact rfrm_W0h_0
  | 1, _ => exact rfrm_W0h_1
  | 2, _ => exact rfrm_W0h_2
  | 3, _ => exact rfrm_W0h_3
theorem rfrm_W1l (k : Nat) (hk : k < 4) : ckM 8 [⟨false, .eql, 0, 0, true⟩, ⟨false, .geq, 1, 0, true⟩, ⟨false, .leq, 1, 16, true⟩, ⟨false, .geq, 2, 1, false⟩] [.and 4 3 k] 4 [.int .i64 (.var 0), .agg [.int .i64 (.var 1), .int .i64 (.var 2), .int .i64 (.var 3), .anys, .anys], .int .i64 (.var 4)] = true := by
  match k, hk with
  | 0, _ => exact rfrm_W1l_0
  | 1, _ => exact rfrm_W1l_1
  | 2, _ => exact rfrm_W1l_2
  | 3, _ => exact rfrm_W1l_3
theorem rfrm_W1h (k : Nat) (hk : k < 4) : ckM 8 [⟨false, .eql, 0, 0, true⟩, ⟨false, .geq, 1, 0, true⟩, ⟨false, .leq, 1, 16, true⟩, ⟨false, .geq, 2, 1, true⟩, ⟨false, .leq, 2, 64, false⟩] [.and 4 3 k] 4 [.int .i64 (.var 0), .agg [.int .i64 (.var 1), .int .i64 (.var 2), .int .i64 (.var 3), .anys, .anys], .int .i64 (.var 4)] = true := by
  match k, hk with
  | 0, _ => exact rfrm_W1h_0
  | 1, _ => exact rfrm_W1h_1
  | 2, _ => exact rfrm_W1h_2
  | 3, _ => exact rfrm_W1h_3
theorem rfrm_W2l (k : Nat) (hk : k < 4) : ckM 8 [⟨false, .eql, 0, 0, true⟩, ⟨false, .geq, 1, 0, true⟩, ⟨false, .leq, 1, 16, true⟩, ⟨false, .geq, 2, 1, true⟩, ⟨false, .leq, 2, 64, true⟩, ⟨false, .geq, 3, 0, false⟩] [.and 4 3 k] 4 [.int .i64 (.var 0), .agg [.int .i64 (.var 1), .int .i64 (.var 2), .int .i64 (.var 3), .anys, .anys], .int .i64 (.var 4)] = true := by
  match k, hk with
  | 0, _ => exact rfrm_W2l_0
  | 1, _ => exact rfrm_W2l_1
  | 2, _ => exact rfrm_W2l_2
  | 3, _ => exact rfrm_W2l_3
theorem rfrm_W2h (k : Nat) (hk : k < 4) : ckM 8 [⟨false, .eql, 0, 0, true⟩, ⟨false, .geq, 1, 0, true⟩, ⟨false, .leq, 1, 16, true⟩, ⟨false, .geq, 2, 1, true⟩, ⟨false, .leq, 2, 64, true⟩, ⟨false, .geq, 3, 0, true⟩, ⟨false, .leq, 3, 1000000, false⟩] [.and 4 3 k] 4 [.int .i64 (.var 0), .agg [.int .i64 (.var 1), .int .i64 (.var 2), .int .i64 (.var 3), .anys, .anys], .int .i64 (.var 4)] = true := by
  match k, hk with
  | 0, _ => exact rfrm_W2h_0
  | 1, _ => exact rfrm_W2h_1
  | 2, _ => exact rfrm_W2h_2
  | 3, _ => exact rfrm_W2h_3
theorem rfrm_Wf (k : Nat) (hk : k < 4) : ckM 8 [⟨false, .eql, 0, 0, true⟩, ⟨false, .geq, 1, 0, true⟩, ⟨false, .leq, 1, 16, true⟩, ⟨false, .geq, 2, 1, true⟩, ⟨false, .leq, 2, 64, true⟩, ⟨false, .geq, 3, 0, true⟩, ⟨false, .leq, 3, 1000000, true⟩] [.and 4 3 k] 4 [.int .i64 (.var 0), .agg [.int .i64 (.var 1), .int .i64 (.var 2), .int .i64 (.var 3), .anys, .anys], .int .i64 (.var 4)] = true := by
  match k, hk with
  | 0, _ => exact rfrm_Wf_0
  | 1, _ => exact rfrm_Wf_1
  | 2, _ => exact rfrm_Wf_2
  | 3, _ => exact rfrm_Wf_3
theorem rfrm_R0l (k : Nat) (hk : k < 4) : ckM 8 [⟨false, .eql, 0, 0, false⟩, ⟨false, .eql, 0, 1, true⟩, ⟨false, .geq, 1, 0, false⟩] [.and 4 3 k] 4 [.int .i64 (.var 0), .agg [.int .i64 (.var 1), .int .i64 (.var 2), .int .i64 (.var 3), .anys, .anys], .int .i64 (.var 4)] = true := by
  match k, hk with
  | 0, _ => exact rfrm_R0l_0
  | 1, _ => exact rfrm_R0l_1
  | 2, _ => exact rfrm_R0l_2
  | 3, _ => exact rfrm_R0l_3
theorem rfrm_R0h (k : Nat) (hk : k < 4) : ckM 8 [⟨false, .eql, 0, 0, false⟩, ⟨false, .eql, 0, 1, true⟩, ⟨false, .geq, 1, 0, true⟩, ⟨false, .leq, 1, 16, false⟩] [.and 4 3 k] 4 [.int .i64 (.var 0), .agg [.int .i64 (.var 1), .int .i64 (.var 2), .int .i64 (.var 3), .anys, .anys], .int .i64 (.var 4)] = true := by
  match k, hk with
  | 0, _ => exact rfrm_R0h_0
  | 1, _ => exact rfrm_R0h_1
  | 2, _ => exact rfrm_R0h_2
  | 3, _ => exact rfrm_R0h_3
theorem rfrm_R1l (k : Nat) (hk : k < 4) : ckM 8 [⟨false, .eql, 0, 0, false⟩, ⟨false, .eql, 0, 1, true⟩, ⟨false, .geq, 1, 0, true⟩, ⟨false, .leq, 1, 16, true⟩, ⟨false, .geq, 2, 1, false⟩] [.and 4 3 k] 4 [.int .i64 (.var 0), .agg [.int .i64 (.var 1), .int .i64 (.var 2), .int .i64 (.var 3), .anys, .anys], .int .i64 (.var 4)] = true := by
  match k, hk with
  | 0, _ => exact rfrm_R1l_0
  | 1, _ => exact rfrm_R1l_1
  | 2, _ => exact rfrm_R1l_2
  | 3, _ => exact rfrm_R1l_3
theorem rfrm_R1h (k : Nat) (hk : k < 4) : ckM 8 [⟨false, .eql, 0, 0, false⟩, ⟨false, .eql, 0, 1, true⟩, ⟨false, .geq, 1, 0, true⟩, ⟨false, .leq, 1, 16, true⟩, ⟨false, .geq, 2, 1, true⟩, ⟨false, .leq, 2, 64, false⟩] [.and 4 3 k] 4 [.int .i64 (.var 0), .agg [.int .i64 (.var 1), .int .i64 (.var 2), .int .i64 (.var 3), .anys, .anys], .int .i64 (.var 4)] = true := by
  match k, hk with
  | 0, _ => exact rfrm_R1h_0
  | 1, _ => exact rfrm_R1h_1
  | 2, _ => exact rfrm_R1h_2
  | 3, _ => exact rfrm_R1h_3
theorem rfrm_R2l (k : Nat) (hk : k < 4) : ckM 8 [⟨false, .eql, 0, 0, false⟩, ⟨false, .eql, 0, 1, true⟩, ⟨false, .geq, 1, 0, true⟩, ⟨false, .leq, 1, 16, true⟩, ⟨false, .geq, 2, 1, true⟩, ⟨false, .leq, 2, 64, true⟩, ⟨false, .geq, 3, 0, false⟩] [.and 4 3 k] 4 [.int .i64 (.var 0), .agg [.int .i64 (.var 1), .int .i64 (.var 2), .int .i64 (.var 3), .anys, .anys], .int .i64 (.var 4)] = true := by
  match k, hk with
  | 0, _ => exact rfrm_R2l_0
  | 1, _ => exact rfrm_R2l_1
  | 2, _ => exact rfrm_R2l_2
  | 3, _ => exact rfrm_R2l_3
theorem rfrm_R2h (k : Nat) (hk : k < 4) : ckM 8 [⟨false, .eql, 0, 0, false⟩, ⟨false, .eql, 0, 1, true⟩, ⟨false, .geq, 1, 0, true⟩, ⟨false, .leq, 1, 16, true⟩, ⟨false, .geq, 2, 1, true⟩, ⟨false, .leq, 2, 64, true⟩, ⟨false, .geq, 3, 0, true⟩, ⟨false, .leq, 3, 1000000, false⟩] [.and 4 3 k] 4 [.int .i64 (.var 0), .agg [.int .i64 (.var 1), .int .i64 (.var 2), .int .i64 (.var 3), .anys, .anys], .int .i64 (.var 4)] = true := by
  match k, hk with
  | 0, _ => exact rfrm_R2h_0
  | 1, _ => exact rfrm_R2h_1
  | 2, _ => exact rfrm_R2h_2
  | 3, _ => exact rfrm_R2h_3
theorem rfrm_Rf (k : Nat) (hk : k < 4) : ckM 8 [⟨false, .eql, 0, 0, false⟩, ⟨false, .eql, 0, 1, true⟩, ⟨false, .geq, 1, 0, true⟩, ⟨false, .leq, 1, 16, true⟩, ⟨false, .geq, 2, 1, true⟩, ⟨false, .leq, 2, 64, true⟩, ⟨false, .geq, 3, 0, true⟩, ⟨false, .leq, 3, 1000000, true⟩] [.and 4 3 k] 4 [.int .i64 (.var 0), .agg [.int .i64 (.var 1), .int .i64 (.var 2), .int .i64 (.var 3), .anys, .anys], .int .i64 (.var 4)] = true := by
  match k, hk with
  | 0, _ => exact rfrm_Rf_0
  | 1, _ => exact rfrm_Rf_1
  | 2, _ => exact rfrm_Rf_2
  | 3, _ => exact rfrm_Rf_3
theorem rfrm_any (a b c d e : Int) (p q : Value) (hp : ∃ x n m, p = .slice x n m) (hq : ∃ x n m, q = .slice x n m) (w : World) : Calls Tryz.prog 4 #[.int .i64 a, .agg #[.int .i64 b, .int .i64 c, .int .i64 d, p, q], .int .i64 e] w fun e w' => e = .returned (.bool true) ∧ Go.RowKit.Below w.heap.size w w' := by
  obtain ⟨x1, n1, m1, rfl⟩ := hp
  obtain ⟨x2, n2, m2, rfl⟩ := hq
  obtain ⟨k, hk, fk⟩ := mask_and e 3 (by decide)
  have kk : (MK.and 4 3 k).OK (rhoL [a, b, c, d, e]) := fk
  have vr : VRs (fun _ => none) (rhoL [a, b, c, d, e]) [.int .i64 (.var 0), .agg [.int .i64 (.var 1), .int .i64 (.var 2), .int .i64 (.var 3), .anys, .anys], .int .i64 (.var 4)] #[.int .i64 a, .agg #[.int .i64 b, .int .i64 c, .int .i64 d, .slice x1 n1 m1, .slice x2 n2 m2], .int .i64 e].toList :=
    .cons (.int rfl) (.cons (.agg (.cons (.int rfl) (.cons (.int rfl) (.cons (.int rfl) (.cons .anys (.cons .anys .nil)))))) (.cons (.int rfl) .nil))
  by_cases g0 : a = 0
  · by_cases l0 : b < 0
    · exact ckM_calls awake_run (ρ := rhoL [a, b, c, d, e]) (cks_cons (ck_eql (ρ := rhoL [a, b, c, d, e]) (i := 0) (n := 0) (decide_eq_true (show a = 0 by omega))) (cks_cons (ck_geq (ρ := rhoL [a, b, c, d, e]) (i := 1) (n := 0) (decide_eq_false (show ¬ 0 ≤ b by omega))) cks_nil)) (all_cons kk all_nil) (by decide) (rfrm_W0l k (by omega)) vr w (.none _ rfl w)
    by_cases h0 : 16 < b
    · exact ckM_calls awake_run (ρ := rhoL [a, b, c, d, e]) (cks_cons (ck_eql (ρ := rhoL [a, b, c, d, e]) (i := 0) (n := 0) (decide_eq_true (show a = 0 by omega))) (cks_cons (ck_geq (ρ := rhoL [a, b, c, d, e]) (i := 1) (n := 0) (decide_eq_true (show 0 ≤ b by omega))) (cks_cons (ck_leq (ρ := rhoL [a, b, c, d, e]) (i := 1) (n := 16) (decide_eq_false (show ¬ b ≤ 16 by omega))) cks_nil))) (all_cons kk all_nil) (by decide) (rfrm_W0h k (by omega)) vr w (.none _ rfl w)
    by_cases l1 : c < 1
    · exact ckM_calls awake_run (ρ := rhoL [a, b, c, d, e]) (cks_cons (ck_eql (ρ := rhoL [a, b, c, d, e]) (i := 0) (n := 0) (decide_eq_true (show a = 0 by omega))) (cks_cons (ck_geq (ρ := rhoL [a, b, c, d, e]) (i := 1) (n := 0) (decide_eq_true (show 0 ≤ b by omega))) (cks_cons (ck_leq (ρ := rhoL [a, b, c, d, e]) (i := 1) (n := 16) (decide_eq_true (show b ≤ 16 by omega))) (cks_cons (ck_geq (ρ := rhoL [a, b, c, d, e]) (i := 2) (n := 1) (decide_eq_false (show ¬ 1 ≤ c by omega))) cks_nil)))) (all_cons kk all_nil) (by decide) (rfrm_W1l k (by omega)) vr w (.none _ rfl w)
    by_cases h1 : 64 < c
    · exact ckM_calls awake_run (ρ := rhoL [a, b, c, d, e]) (cks_cons (ck_eql (ρ := rhoL [a, b, c, d, e]) (i := 0) (n := 0) (decide_eq_true (show a = 0 by omega))) (cks_cons (ck_geq (ρ := rhoL [a, b, c, d, e]) (i := 1) (n := 0) (decide_eq_true (show 0 ≤ b by omega))) (cks_cons (ck_leq (ρ := rhoL [a, b, c, d, e]) (i := 1) (n := 16) (decide_eq_true (show b ≤ 16 by omega))) (cks_cons (ck_geq (ρ := rhoL [a, b, c, d, e]) (i := 2) (n := 1) (decide_eq_true (show 1 ≤ c by omega))) (cks_cons (ck_leq (ρ := rhoL [a, b, c, d, e]) (i := 2) (n := 64) (decide_eq_false (show ¬ c ≤ 64 by omega))) cks_nil))))) (all_cons kk all_nil) (by decide) (rfrm_W1h k (by omega)) vr w (.none _ rfl w)
    by_cases l2 : d < 0
    · exact ckM_calls awake_run (ρ := rhoL [a, b, c, d, e]) (cks_cons (ck_eql (ρ := rhoL [a, b, c, d, e]) (i := 0) (n := 0) (decide_eq_true (show a = 0 by omega))) (cks_cons (ck_geq (ρ := rhoL [a, b, c, d, e]) (i := 1) (n := 0) (decide_eq_true (show 0 ≤ b by omega))) (cks_cons (ck_leq (ρ := rhoL [a, b, c, d, e]) (i := 1) (n := 16) (decide_eq_true (show b ≤ 16 by omega))) (cks_cons (ck_geq (ρ := rhoL [a, b, c, d, e]) (i := 2) (n := 1) (decide_eq_true (show 1 ≤ c by omega))) (cks_cons (ck_leq (ρ := rhoL [a, b, c, d, e]) (i := 2) (n := 64) (decide_eq_true (show c ≤ 64 by omega))) (cks_cons (ck_geq (ρ := rhoL [a, b, c, d, e]) (i := 3) (n := 0) (decide_eq_false (show ¬ 0 ≤ d by omega))) cks_nil)))))) (all_cons kk all_nil) (by decide) (rfrm_W2l k (by omega)) vr w (.none _ rfl w)
    by_cases h2 : 1000000 < d
    · exact ckM_calls awake_run (ρ := rhoL [a, b, c, d, e]) (cks_cons (ck_eql (ρ := rhoL [a, b, c, d, e]) (i := 0) (n := 0) (decide_eq_true (show a = 0 by omega))) (cks_cons (ck_geq (ρ := rhoL [a, b, c, d, e]) (i := 1) (n := 0) (decide_eq_true (show 0 ≤ b by omega))) (cks_cons (ck_leq (ρ := rhoL [a, b, c, d, e]) (i := 1) (n := 16) (decide_eq_true (show b ≤ 16 by omega))) (cks_cons (ck_geq (ρ := rhoL [a, b, c, d, e]) (i := 2) (n := 1) (decide_eq_true (show 1 ≤ c by omega))) (cks_cons (ck_leq (ρ := rhoL [a, b, c, d, e]) (i := 2) (n := 64) (decide_eq_true (show c ≤ 64 by omega))) (cks_cons (ck_geq (ρ := rhoL [a, b, c, d, e]) (i := 3) (n := 0) (decide_eq_true (show 0 ≤ d by omega))) (cks_cons (ck_leq (ρ := rhoL [a, b, c, d, e]) (i := 3) (n := 1000000) (decide_eq_false (show ¬ d ≤ 1000000 by omega))) cks_nil))))))) (all_cons kk all_nil) (by decide) (rfrm_W2h k (by omega)) vr w (.none _ rfl w)
    exact ckM_calls awake_run (ρ := rhoL [a, b, c, d, e]) (cks_cons (ck_eql (ρ := rhoL [a, b, c, d, e]) (i := 0) (n := 0) (decide_eq_true (show a = 0 by omega))) (cks_cons (ck_geq (ρ := rhoL [a, b, c, d, e]) (i := 1) (n := 0) (decide_eq_true (show 0 ≤ b by omega))) (cks_cons (ck_leq (ρ := rhoL [a, b, c, d, e]) (i := 1) (n := 16) (decide_eq_true (show b ≤ 16 by omega))) (cks_cons (ck_geq (ρ := rhoL [a, b, c, d, e]) (i := 2) (n := 1) (decide_eq_true (show 1 ≤ c by omega))) (cks_cons (ck_leq (ρ := rhoL [a, b, c, d, e]) (i := 2) (n := 64) (decide_eq_true (show c ≤ 64 by omega))) (cks_cons (ck_geq (ρ := rhoL [a, b, c, d, e]) (i := 3) (n := 0) (decide_eq_true (show 0 ≤ d by omega))) (cks_cons (ck_leq (ρ := rhoL [a, b, c, d, e]) (i := 3) (n := 1000000) (decide_eq_true (show d ≤ 1000000 by omega))) cks_nil))))))) (all_cons kk all_nil) (by decide) (rfrm_Wf k (by omega)) vr w (.none _ rfl w)
  by_cases g1 : a = 1
  · by_cases l0 : b < 0
    · exact ckM_calls awake_run (ρ := rhoL [a, b, c, d, e]) (cks_cons (ck_eql (ρ := rhoL [a, b, c, d, e]) (i := 0) (n := 0) (decide_eq_false (show ¬ a = 0 by omega))) (cks_cons (ck_eql (ρ := rhoL [a, b, c, d, e]) (i := 0) (n := 1) (decide_eq_true (show a = 1 by omega))) (cks_cons (ck_geq (ρ := rhoL [a, b, c, d, e]) (i := 1) (n := 0) (decide_eq_false (show ¬ 0 ≤ b by omega))) cks_nil))) (all_cons kk all_nil) (by decide) (rfrm_R0l k (by omega)) vr w (.none _ rfl w)
    by_cases h0 : 16 < b
    · exact ckM_calls awake_run (ρ := rhoL [a, b, c, d, e]) (cks_cons (ck_eql (ρ := rhoL [a, b, c, d, e]) (i := 0) (n := 0) (decide_eq_false (show ¬ a = 0 by omega))) (cks_cons (ck_eql (ρ := rhoL [a, b, c, d, e]) (i := 0) (n := 1) (decide_eq_true (show a = 1 by omega))) (cks_cons (ck_geq (ρ := rhoL [a, b, c, d, e]) (i := 1) (n := 0) (decide_eq_true (show 0 ≤ b by omega))) (cks_cons (ck_leq (ρ := rhoL [a, b, c, d, e]) (i := 1) (n := 16) (decide_eq_false (show ¬ b ≤ 16 by omega))) cks_nil)))) (all_cons kk all_nil) (by decide) (rfrm_R0h k (by omega)) vr w (.none _ rfl w)
    by_cases l1 : c < 1
    · exact ckM_calls awake_run (ρ := rhoL [a, b, c, d, e]) (cks_cons (ck_eql (ρ := rhoL [a, b, c, d, e]) (i := 0) (n := 0) (decide_eq_false (show ¬ a = 0 by omega))) (cks_cons (ck_eql (ρ := rhoL [a, b, c, d, e]) (i := 0) (n := 1) (decide_eq_true (show a = 1 by omega))) (cks_cons (ck_geq (ρ := rhoL [a, b, c, d, e]) (i := 1) (n := 0) (decide_eq_true (show 0 ≤ b by omega))) (cks_cons (ck_leq (ρ := rhoL [a, b, c, d, e]) (i := 1) (n := 16) (decide_eq_true (show b ≤ 16 by omega))) (cks_cons (ck_geq (ρ := rhoL [a, b, c, d, e]) (i := 2) (n := 1) (decide_eq_false (show ¬ 1 ≤ c by omega))) cks_nil))))) (all_cons kk all_nil) (by decide) (rfrm_R1l k (by omega)) vr w (.none _ rfl w)
    by_cases h1 : 64 < c
    · exact ckM_calls awake_run (ρ := rhoL [a, b, c, d, e]) (cks_cons (ck_eql (ρ := rhoL [a, b, c, d, e]) (i := 0) (n := 0) (decide_eq_false (show ¬ a = 0 by omega))) (cks_cons (ck_eql (ρ := rhoL [a, b, c, d, e]) (i := 0) (n := 1) (decide_eq_true (show a = 1 by omega))) (cks_cons (ck_geq (ρ := rhoL [a, b, c, d, e]) (i := 1) (n := 0) (decide_eq_true (show 0 ≤ b by omega))) (cks_cons (ck_leq (ρ := rhoL [a, b, c, d, e]) (i := 1) (n := 16) (decide_eq_true (show b ≤ 16 by omega))) (cks_cons (ck_geq (ρ := rhoL [a, b, c, d, e]) (i := 2) (n := 1) (decide_eq_true (show 1 ≤ c by omega))) (cks_cons (ck_leq (ρ := rhoL [a, b, c, d, e]) (i := 2) (n := 64) (decide_eq_false (show ¬ c ≤ 64 by omega))) cks_nil)))))) (all_cons kk all_nil) (by decide) (rfrm_R1h k (by omega)) vr w (.none _ rfl w)
    by_cases l2 : d < 0
    · exact ckM_calls awake_run (ρ := rhoL [a, b, c, d, e]) (cks_cons (ck_eql (ρ := rhoL [a, b, c, d, e]) (i := 0) (n := 0) (decide_eq_false (show ¬ a = 0 by omega))) (cks_cons (ck_eql (ρ := rhoL [a, b, c, d, e]) (i := 0) (n := 1) (decide_eq_true (show a = 1 by omega))) (cks_cons (ck_geq (ρ := rhoL [a, b, c, d, e]) (i := 1) (n := 0) (decide_eq_true (show 0 ≤ b by omega))) (cks_cons (ck_leq (ρ := rhoL [a, b, c, d, e]) (i := 1) (n := 16) (decide_eq_true (show b ≤ 16 by omega))) (cks_cons (ck_geq (ρ := rhoL [a, b, c, d, e]) (i := 2) (n := 1) (decide_eq_true (show 1 ≤ c by omega))) (cks_cons (ck_leq (ρ := rhoL [a, b, c, d, e]) (i := 2) (n := 64) (decide_eq_true (show c ≤ 64 by omega))) (cks_cons (ck_geq (ρ := rhoL [a, b, c, d, e]) (i := 3) (n := 0) (decide_eq_false (show ¬ 0 ≤ d by omega))) cks_nil))))))) (all_cons kk all_nil) (by decide) (rfrm_R2l k (by omega)) vr w (.none _ rfl w)
    by_cases h2 : 1000000 < d
    · exact ckM_calls awake_run (ρ := rhoL [a, b, c, d, e]) (cks_cons (ck_eql (ρ := rhoL [a, b, c, d, e]) (i := 0) (n := 0) (decide_eq_false (show ¬ a = 0 by omega))) (cks_cons (ck_eql (ρ := rhoL [a, b, c, d, e]) (i := 0) (n := 1) (decide_eq_true (show a = 1 by omega))) (cks_cons (ck_geq (ρ := rhoL [a, b, c, d, e]) (i := 1) (n := 0) (decide_eq_true (show 0 ≤ b by omega))) (cks_cons (ck_leq (ρ := rhoL [a, b, c, d, e]) (i := 1) (n := 16) (decide_eq_true (show b ≤ 16 by omega))) (cks_cons (ck_geq (ρ := rhoL [a, b, c, d, e]) (i := 2) (n := 1) (decide_eq_true (show 1 ≤ c by omega))) (cks_cons (ck_leq (ρ := rhoL [a, b, c, d, e]) (i := 2) (n := 64) (decide_eq_true (show c ≤ 64 by omega))) (cks_cons (ck_geq (ρ := rhoL [a, b, c, d, e]) (i := 3) (n := 0) (decide_eq_true (show 0 ≤ d by omega))) (cks_cons (ck_leq (ρ := rhoL [a, b, c, d, e]) (i := 3) (n := 1000000) (decide_eq_false (show ¬ d ≤ 1000000 by omega))) cks_nil)))))))) (all_cons kk all_nil) (by decide) (rfrm_R2h k (by omega)) vr w (.none _ rfl w)
    exact ckM_calls awake_run (ρ := rhoL [a, b, c, d, e]) (cks_cons (ck_eql (ρ := rhoL [a, b, c, d, e]) (i := 0) (n := 0) (decide_eq_false (show ¬ a = 0 by omega))) (cks_cons (ck_eql (ρ := rhoL [a, b, c, d, e]) (i := 0) (n := 1) (decide_eq_true (show a = 1 by omega))) (cks_cons (ck_geq (ρ := rhoL [a, b, c, d, e]) (i := 1) (n := 0) (decide_eq_true (show 0 ≤ b by omega))) (cks_cons (ck_leq (ρ := rhoL [a, b, c, d, e]) (i := 1) (n := 16) (decide_eq_true (show b ≤ 16 by omega))) (cks_cons (ck_geq (ρ := rhoL [a, b, c, d, e]) (i := 2) (n := 1) (decide_eq_true (show 1 ≤ c by omega))) (cks_cons (ck_leq (ρ := rhoL [a, b, c, d, e]) (i := 2) (n := 64) (decide_eq_true (show c ≤ 64 by omega))) (cks_cons (ck_geq (ρ := rhoL [a, b, c, d, e]) (i := 3) (n := 0) (decide_eq_true (show 0 ≤ d by omega))) (cks_cons (ck_leq (ρ := rhoL [a, b, c, d, e]) (i := 3) (n := 1000000) (decide_eq_true (show d ≤ 1000000 by omega))) cks_nil)))))))) (all_cons kk all_nil) (by decide) (rfrm_Rf k (by omega)) vr w (.none _ rfl w)
  exact ckM_calls awake_run (ρ := rhoL [a, b, c, d, e]) (cks_cons (ck_eql (ρ := rhoL [a, b, c, d, e]) (i := 0) (n := 0) (decide_eq_false (show ¬ a = 0 by omega))) (cks_cons (ck_eql (ρ := rhoL [a, b, c, d, e]) (i := 0) (n := 1) (decide_eq_false (show ¬ a = 1 by omega))) cks_nil)) (all_cons kk all_nil) (by decide) (rfrm_E k (by omega)) vr w (.none _ rfl w)
end Go.Proofs.YtgccmnnenhncpaaGreatDoor
