/-
  RunForms: cases, run (2).
-/
import Derived.Test.YtgccmnnenhncpaaGreatDoorLawRunFormsB
namespace Go.Proofs.YtgccmnnenhncpaaGreatDoor
open Go Vx

noncomputable def rfrmE2 (k : Nat) : Bool := ckM 8 [⟨false, .eql, 0, 0, false⟩, ⟨false, .eql, 0, 1, false⟩] [.and 4 3 k] 4 [.int .i64 (.var 0), .agg [.int .i64 (.var 1), .int .i64 (.var 2), .int .i64 (.var 3), .anys, .anys], .int .i64 (.var 4)]
noncomputable def rfrmW0l2 (k : Nat) : Bool := ckM 8 [⟨false, .eql, 0, 0, true⟩, ⟨false, .geq, 1, 0, false⟩] [.and 4 3 k] 4 [.int .i64 (.var 0), .agg [.int .i64 (.var 1), .int .i64 (.var 2), .int .i64 (.var 3), .anys, .anys], .int .i64 (.var 4)]
noncomputable def rfrmW0h2 (k : Nat) : Bool := ckM 8 [⟨false, .eql, 0, 0, true⟩, ⟨false, .geq, 1, 0, true⟩, ⟨false, .leq, 1, 16, false⟩] [.and 4 3 k] 4 [.int .i64 (.var 0), .agg [.int .i64 (.var 1), .int .i64 (.var 2), .int .i64 (.var 3), .anys, .anys], .int .i64 (.var 4)]
noncomputable def rfrmW1l2 (k : Nat) : Bool := ckM 8 [⟨false, .eql, 0, 0, true⟩, ⟨false, .geq, 1, 0, true⟩, ⟨false, .leq, 1, 16, true⟩, ⟨false, .geq, 2, 1, false⟩] [.and 4 3 k] 4 [.int .i64 (.var 0), .agg [.int .i64 (.var 1), .int .i64 (.var 2), .int .i64 (.var 3), .anys, .anys], .int .i64 (.var 4)]
noncomputable def rfrmW1h2 (k : Nat) : Bool := ckM 8 [⟨false, .eql, 0, 0, true⟩, ⟨false, .geq, 1, 0, true⟩, ⟨false, .leq, 1, 16, true⟩, ⟨false, .geq, 2, 1, true⟩, ⟨false, .leq, 2, 64, false⟩] [.and 4 3 k] 4 [.int .i64 (.var 0), .agg [.int .i64 (.var 1), .int .i64 (.var 2), .int .i64 (.var 3), .anys, .anys], .int .i64 (.var 4)]
noncomputable def rfrmW2l2 (k : Nat) : Bool := ckM 8 [⟨false, .eql, 0, 0, true⟩, ⟨false, .geq, 1, 0, true⟩, ⟨false, .leq, 1, 16, true⟩, ⟨false, .geq, 2, 1, true⟩, ⟨false, .leq, 2, 64, true⟩, ⟨false, .geq, 3, 0, false⟩] [.and 4 3 k] 4 [.int .i64 (.var 0), .agg [.int .i64 (.var 1), .int .i64 (.var 2), .int .i64 (.var 3), .anys, .anys], .int .i64 (.var 4)]
noncomputable def rfrmW2h2 (k : Nat) : Bool := ckM 8 [⟨false, .eql, 0, 0, true⟩, ⟨false, .geq, 1, 0, true⟩, ⟨false, .leq, 1, 16, true⟩, ⟨false, .geq, 2, 1, true⟩, ⟨false, .leq, 2, 64, true⟩, ⟨false, .geq, 3, 0, true⟩, ⟨false, .leq, 3, 1000000, false⟩] [.and 4 3 k] 4 [.int .i64 (.var 0), .agg [.int .i64 (.var 1), .int .i64 (.var 2), .int .i64 (.var 3), .anys, .anys], .int .i64 (.var 4)]
noncomputable def rfrmWf2 (k : Nat) : Bool := ckM 8 [⟨false, .eql, 0, 0, true⟩, ⟨false, .geq, 1, 0, true⟩, ⟨false, .leq, 1, 16, true⟩, ⟨false, .geq, 2, 1, true⟩, ⟨false, .leq, 2, 64, true⟩, ⟨false, .geq, 3, 0, true⟩, ⟨false, .leq, 3, 1000000, true⟩] [.and 4 3 k] 4 [.int .i64 (.var 0), .agg [.int .i64 (.var 1), .int .i64 (.var 2), .int .i64 (.var 3), .anys, .anys], .int .i64 (.var 4)]
noncomputable def rfrmR0l2 (k : Nat) : Bool := ckM 8 [⟨false, .eql, 0, 0, false⟩, ⟨false, .eql, 0, 1, true⟩, ⟨false, .geq, 1, 0, false⟩] [.and 4 3 k] 4 [.int .i64 (.var 0), .agg [.int .i64 (.var 1), .int .i64 (.var 2), .int .i64 (.var 3), .anys, .anys], .int .i64 (.var 4)]
noncomputable def rfrmR0h2 (k : Nat) : Bool := ckM 8 [⟨false, .eql, 0, 0, false⟩, ⟨false, .eql, 0, 1, true⟩, ⟨false, .geq, 1, 0, true⟩, ⟨false, .leq, 1, 16, false⟩] [.and 4 3 k] 4 [.int .i64 (.var 0), .agg [.int .i64 (.var 1), .int .i64 (.var 2), .int .i64 (.var 3), .anys, .anys], .int .i64 (.var 4)]
noncomputable def rfrmR1l2 (k : Nat) : Bool := ckM 8 [⟨false, .eql, 0, 0, false⟩, ⟨false, .eql, 0, 1, true⟩, ⟨false, .geq, 1, 0, true⟩, ⟨false, .leq, 1, 16, true⟩, ⟨false, .geq, 2, 1, false⟩] [.and 4 3 k] 4 [.int .i64 (.var 0), .agg [.int .i64 (.var 1), .int .i64 (.var 2), .int .i64 (.var 3), .anys, .anys], .int .i64 (.var 4)]
noncomputable def rfrmR1h2 (k : Nat) : Bool := ckM 8 [⟨false, .eql, 0, 0, false⟩, ⟨false, .eql, 0, 1, true⟩, ⟨false, .geq, 1, 0, true⟩, ⟨false, .leq, 1, 16, true⟩, ⟨false, .geq, 2, 1, true⟩, ⟨false, .leq, 2, 64, false⟩] [.and 4 3 k] 4 [.int .i64 (.var 0), .agg [.int .i64 (.var 1), .int .i64 (.var 2), .int .i64 (.var 3), .anys, .anys], .int .i64 (.var 4)]
noncomputable def rfrmR2l2 (k : Nat) : Bool := ckM 8 [⟨false, .eql, 0, 0, false⟩, ⟨false, .eql, 0, 1, true⟩, ⟨false, .geq, 1, 0, true⟩, ⟨false, .leq, 1, 16, true⟩, ⟨false, .geq, 2, 1, true⟩, ⟨false, .leq, 2, 64, true⟩, ⟨false, .geq, 3, 0, false⟩] [.and 4 3 k] 4 [.int .i64 (.var 0), .agg [.int .i64 (.var 1), .int .i64 (.var 2), .int .i64 (.var 3), .anys, .anys], .int .i64 (.var 4)]
noncomputable def rfrmR2h2 (k : Nat) : Bool := ckM 8 [⟨false, .eql, 0, 0, false⟩, ⟨false, .eql, 0, 1, true⟩, ⟨false, .geq, 1, 0, true⟩, ⟨false, .leq, 1, 16, true⟩, ⟨false, .geq, 2, 1, true⟩, ⟨false, .leq, 2, 64, true⟩, ⟨false, .geq, 3, 0, true⟩, ⟨false, .leq, 3, 1000000, false⟩] [.and 4 3 k] 4 [.int .i64 (.var 0), .agg [.int .i64 (.var 1), .int .i64 (.var 2), .int .i64 (.var 3), .anys, .anys], .int .i64 (.var 4)]
noncomputable def rfrmRf2 (k : Nat) : Bool := ckM 8 [⟨false, .eql, 0, 0, false⟩, ⟨false, .eql, 0, 1, true⟩, ⟨false, .geq, 1, 0, true⟩, ⟨false, .leq, 1, 16, true⟩, ⟨false, .geq, 2, 1, true⟩, ⟨false, .leq, 2, 64, true⟩, ⟨false, .geq, 3, 0, true⟩, ⟨false, .leq, 3, 1000000, true⟩] [.and 4 3 k] 4 [.int .i64 (.var 0), .agg [.int .i64 (.var 1), .int .i64 (.var 2), .int .i64 (.var 3), .anys, .anys], .int .i64 (.var 4)]
set_option maxRecDepth 100000 in
theorem rfrm_E_2 : rfrmE2 2 = true := by decide +kernel
set_option maxRecDepth 100000 in
theorem rfrm_W0h_2 : rfrmW0h2 2 = true := by decide +kernel
set_option maxRecDepth 100000 in
theorem rfrm_W1h_2 : rfrmW1h2 2 = true := by decide +kernel
set_option maxRecDepth 100000 in
theorem rfrm_W2h_2 : rfrmW2h2 2 = true := by decide +kernel
set_option maxRecDepth 100000 in
theorem rfrm_R0l_2 : rfrmR0l2 2 = true := by decide +kernel
set_option maxRecDepth 100000 in
theorem rfrm_R1l_2 : rfrmR1l2 2 = true := by decide +kernel
set_option maxRecDepth 100000 in
theorem rfrm_R2l_2 : rfrmR2l2 2 = true := by decide +kernel
set_option maxRecDepth 100000 in
theorem rfrm_Rf_2 : rfrmRf2 2 = true := by decide +kernel
end Go.Proofs.YtgccmnnenhncpaaGreatDoor
