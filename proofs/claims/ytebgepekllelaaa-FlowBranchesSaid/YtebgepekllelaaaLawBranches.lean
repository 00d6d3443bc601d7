/-
  FlowBranches: each of its cases is run, the labels beyond the depth by their class; what a call of it comes to.
-/
import Derived.Test.YtebgepekllelaaaLawMore
namespace Go.Proofs.Ytebgepekllelaaa
open Go Vx

noncomputable def brArgs (s t : Bool) : List AV := [.int .i64 (.var 0), .int .i64 (.var 1), .bool s, .bool t]
noncomputable def brOne (d k n : Nat) (s t : Bool) : Bool := lawM [.and 0 7 d] (span 1 15 k n) 7 (brArgs s t)
noncomputable def brSame (d k : Nat) (s t : Bool) : Bool := lawM [.and 0 7 d, .and 1 15 k] [[]] 7 (brArgs s t)
noncomputable def brB (d : Nat) (s t : Bool) : Bool := and (brOne d (Nat.succ d) (Nat.sub 15 d) s t) (allN (Nat.succ d) fun k => brSame d k s t)
set_option maxRecDepth 100000 in
theorem br_0_false_false : brB 0 false false = true := by decide +kernel
set_option maxRecDepth 100000 in
theorem br_0_false_true : brB 0 false true = true := by decide +kernel
set_option maxRecDepth 100000 in
theorem br_0_true_false : brB 0 true false = true := by decide +kernel
set_option maxRecDepth 100000 in
theorem br_0_true_true : brB 0 true true = true := by decide +kernel
set_option maxRecDepth 100000 in
theorem br_1_false_false : brB 1 false false = true := by decide +kernel
set_option maxRecDepth 100000 in
theorem br_1_false_true : brB 1 false true = true := by decide +kernel
set_option maxRecDepth 100000 in
theorem br_1_true_false : brB 1 true false = true := by decide +kernel
set_option maxRecDepth 100000 in
theorem br_1_true_true : brB 1 true true = true := by decide +kernel
set_option maxRecDepth 100000 in
theorem br_2_false_false : brB 2 false false = true := by decide +kernel
set_option maxRecDepth 100000 in
theorem br_2_false_true : brB 2 false true = true := by decide +kernel
set_option maxRecDepth 100000 in
theorem br_2_true_false : brB 2 true false = true := by decide +kernel
set_option maxRecDepth 100000 in
theorem br_2_true_true : brB 2 true true = true := by decide +kernel
set_option maxRecDepth 100000 in
theorem br_3_false_false : brB 3 false false = true := by decide +kernel
set_option maxRecDepth 100000 in
theorem br_3_false_true : brB 3 false true = true := by decide +kernel
set_option maxRecDepth 100000 in
theorem br_3_true_false : brB 3 true false = true := by decide +kernel
set_option maxRecDepth 100000 in
theorem br_3_true_true : brB 3 true true = true := by decide +kernel
set_option maxRecDepth 100000 in
theorem br_4_false_false : brB 4 false false = true := by decide +kernel
set_option maxRecDepth 100000 in
theorem br_4_false_true : brB 4 false true = true := by decide +kernel
set_option maxRecDepth 100000 in
theorem br_4_true_false : brB 4 true false = true := by decide +kernel
set_option maxRecDepth 100000 in
theorem br_4_true_true : brB 4 true true = true := by decide +kernel
set_option maxRecDepth 100000 in
theorem br_5_false_false : brB 5 false false = true := by decide +kernel
set_option maxRecDepth 100000 in
theorem br_5_false_true : brB 5 false true = true := by decide +kernel
set_option maxRecDepth 100000 in
theorem br_5_true_false : brB 5 true false = true := by decide +kernel
set_option maxRecDepth 100000 in
theorem br_5_true_true : brB 5 true true = true := by decide +kernel
set_option maxRecDepth 100000 in
theorem br_6_false_false : brB 6 false false = true := by decide +kernel
set_option maxRecDepth 100000 in
theorem br_6_false_true : brB 6 false true = true := by decide +kernel
set_option maxRecDepth 100000 in
theorem br_6_true_false : brB 6 true false = true := by decide +kernel
set_option maxRecDepth 100000 in
theorem br_6_true_true : brB 6 true true = true := by decide +kernel
set_option maxRecDepth 100000 in
theorem br_7_false_false : brB 7 false false = true := by decide +kernel
set_option maxRecDepth 100000 in
theorem br_7_false_true : brB 7 false true = true := by decide +kernel
set_option maxRecDepth 100000 in
theorem br_7_true_false : brB 7 true false = true := by decide +kernel
set_option maxRecDepth 100000 in
theorem br_7_true_true : brB 7 true true = true := by decide +kernel
theorem br_all (d : Nat) (s t : Bool) (hd : d ≤ 7) : brB d s t = true := by
  have h : d = 0 ∨ d = 1 ∨ d = 2 ∨ d = 3 ∨ d = 4 ∨ d = 5 ∨ d = 6 ∨ d = 7 := by omega
  rcases h with rfl | rfl | rfl | rfl | rfl | rfl | rfl | rfl
  · cases s <;> cases t
    · exact br_0_false_false
    · exact br_0_false_true
    · exact br_0_true_false
    · exact br_0_true_true
  · cases s <;> cases t
    · exact br_1_false_false
    · exact br_1_false_true
    · exact br_1_true_false
    · exact br_1_true_true
  · cases s <;> cases t
    · exact br_2_false_false
    · exact br_2_false_true
    · exact br_2_true_false
    · exact br_2_true_true
  · cases s <;> cases t
    · exact br_3_false_false
    · exact br_3_false_true
    · exact br_3_true_false
    · exact br_3_true_true
  · cases s <;> cases t
    · exact br_4_false_false
    · exact br_4_false_true
    · exact br_4_true_false
    · exact br_4_true_true
  · cases s <;> cases t
    · exact br_5_false_false
    · exact br_5_false_true
    · exact br_5_true_false
    · exact br_5_true_true
  · cases s <;> cases t
    · exact br_6_false_false
    · exact br_6_false_true
    · exact br_6_true_false
    · exact br_6_true_true
  · cases s <;> cases t
    · exact br_7_false_false
    · exact br_7_false_true
    · exact br_7_true_false
    · exact br_7_true_true
theorem brVars (a b : Int) (s t : Bool) : VRs (fun _ => none) (rho3 a b 0) (brArgs s t) [.int .i64 a, .int .i64 b, .bool s, .bool t] :=
  .cons (.int rfl) (.cons (.int rfl) (.cons .bool (.cons .bool .nil)))
theorem branches_any (a b : Int) (s t : Bool) (w : World) : Calls Try.prog 7 #[.int .i64 a, .int .i64 b, .bool s, .bool t] w fun e w' => e = .returned (.bool true) ∧ Go.RowKit.Below w.heap.size w w' := by
  obtain ⟨d, hd, ed⟩ := mask_and a 7 (by decide)
  obtain ⟨k, hk, ek⟩ := mask_and b 15 (by decide)
  have hd1 : (MK.and 0 7 d).OK (rho3 a b 0) := ed
  have hk1 : (MK.and 1 15 k).OK (rho3 a b 0) := ek
  have h := br_all d s t hd
  unfold brB at h
  rw [Bool.and_eq_true] at h
  by_cases hkd : k ≤ d
  · exact lawM_calls (all_cons hd1 (all_cons hk1 all_nil)) ⟨[], List.mem_cons_self, fun c hc => by cases hc⟩ (by decide) (allN_ok _ (Nat.succ d) h.2 k (by omega)) (brVars a b s t) w
  · exact lawM_calls (all_cons hd1 all_nil) (span_in (Nat.sub 15 d) (Nat.succ d) k (by omega) (by have : Nat.sub 15 d = 15 - d := rfl; omega) hk1) (by decide) h.1 (brVars a b s t) w
end Go.Proofs.Ytebgepekllelaaa
