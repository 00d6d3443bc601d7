/-
  RunForms: cases, run (1).
-/
import Derived.Test.YtgccmnnenhncpaaGreatDoorLawRunFormsB
namespace Go.Proofs.YtgccmnnenhncpaaGreatDoor
open Go Vx

noncomputable def rfrmE1 (k : Nat) : Bool := ckM 8 [⟨false, .eql, 0, 0, false⟩, ⟨false, .eql, 0, 1, false⟩] [.and 4 3 k] 4 [.int .i64 (.var 0), .agg [.int .i64 (.var 1), .int .i64 (.var 2), .int .i64 (.var 3), .anys, .anys], .int .i64 (.var 4)]
noncomputable def rfrmW0l1 (k : Nat) : Bool := ckM 8 [⟨false, .eql, 0, 0, true⟩, ⟨false, .geq, 1, 0, false⟩] [.and 4 3 k] 4 [.int .i64 (.var 0), .agg [.int .i64 (.var 1), .int .i64 (.var 2), .int .i64 (.var 3), .anys, .anys], .int .i64 (.var 4)]
noncomputable def rfrmW0h1 (k : Nat) : Bool := ckM 8 [⟨false, .eql, 0, 0, true⟩, ⟨false, .geq, 1, 0, true⟩, ⟨false, .leq, 1, 16, false⟩] [.and 4 3 k] 4 [.int .i64 (.var 0), .agg [.int .i64 (.var 1), .int .i64 (.var 2), .int .i64 (.var 3), .anys, .anys], .int .i64 (.var 4)]
noncomputable def rfrmW1l1 (k : Nat) : Bool := ckM 8 [⟨false, .eql, 0, 0, true⟩, ⟨false, .geq, 1, 0, true⟩, ⟨false, .leq, 1, 16, true⟩, ⟨false, .geq, 2, 1, false⟩] [.and 4 3 k] 4 [.int .i64 (.var 0), .agg [.int .i64 (.var 1), .int .i64 (.var 2), .int .i64 (.var 3), .anys, .anys], .int .i64 (.var 4)]
noncomputable def rfrmW1h1 (k : Nat) : Bool := ckM 8 [⟨false, .eql, 0, 0, true⟩, ⟨false, .geq, 1, 0, true⟩, ⟨false, .leq, 1, 16, true⟩, ⟨false, .geq, 2, 1, true⟩, ⟨false, .leq, 2, 64, false⟩] [.and 4 3 k] 4 [.int .i64 (.var 0), .agg [.int .i64 (.var 1), .int .i64 (.var 2), .int .i64 (.var 3), .anys, .anys], .int .i64 (.var 4)]
noncomputable def rfrmW2l1 (k : Nat) : Bool := ckM 8 [⟨false, .eql, 0, 0, true⟩, ⟨false, .geq, 1, 0, true⟩, ⟨false, .leq, 1, 16, true⟩, ⟨false, .geq, 2, 1, true⟩, ⟨false, .leq, 2, 64, true⟩, ⟨false, .geq, 3, 0, false⟩] [.and 4 3 k] 4 [.int .i64 (.var 0), .agg [.int .i64 (.var 1), .int .i64 (.var 2), .int .i64 (.var 3), .anys, .anys], .int .i64 (.var 4)]
noncomputable def rfrmW2h1 (k : Nat) : Bool := ckM 8 [⟨false, .eql, 0, 0, true⟩, ⟨false, .geq, 1, 0, true⟩, ⟨false, .leq, 1, 16, true⟩, ⟨false, .geq, 2, 1, true⟩, ⟨false, .leq, 2, 64, true⟩, ⟨false, .geq, 3, 0, true⟩, ⟨false, .leq, 3, 1000000, false⟩] [.and 4 3 k] 4 [.int .i64 (.var 0), .agg [.int .i64 (.var 1), .int .i64 (.var 2), .int .i64 (.var 3), .anys, .anys], .int .i64 (.var 4)]
noncomputable def rfrmWf1 (k : Nat) : Bool := ckM 8 [⟨false, .eql, 0, 0, true⟩, ⟨false, .geq, 1, 0, true⟩, ⟨false, .leq, 1, 16, true⟩, ⟨false, .geq, 2, 1, true⟩, ⟨false, .leq, 2, 64, true⟩, ⟨false, .geq, 3, 0, true⟩, ⟨false, .leq, 3, 1000000, true⟩] [.and 4 3 k] 4 [.int .i64 (.var 0), .agg [.int .i64 (.var 1), .int .i64 (.var 2), .int .i64 (.var 3), .anys, .anys], .int .i64 (.var 4)]
noncomputable def rfrmR0l1 (k : Nat) : Bool := ckM 8 [⟨false, .eql, 0, 0, false⟩, ⟨false, .eql, 0, 1, true⟩, ⟨false, .geq, 1, 0, false⟩] [.and 4 3 k] 4 [.int .i64 (.var 0), .agg [.int .i64 (.var 1), .int .i64 (.var 2), .int .i64 (.var 3), .anys, .anys], .int .i64 (.var 4)]
noncomputable def rfrmR0h1 (k : Nat) : Bool := ckM 8 [⟨false, .eql, 0, 0, false⟩, ⟨false, .eql, 0, 1, true⟩, ⟨false, .geq, 1, 0, true⟩, ⟨false, .leq, 1, 16, false⟩] [.and 4 3 k] 4 [.int .i64 (.var 0), .agg [.int .i64 (.var 1), .int .i64 (.var 2), .int .i64 (.var 3), .anys, .anys], .int .i64 (.var 4)]
noncomputable def rfrmR1l1 (k : Nat) : Bool := ckM 8 [⟨false, .eql, 0, 0, false⟩, ⟨false, .eql, 0, 1, true⟩, ⟨false, .geq, 1, 0, true⟩, ⟨false, .leq, 1, 16, true⟩, ⟨false, .geq, 2, 1, false⟩] [.and 4 3 k] 4 [.int .i64 (.var 0), .agg [.int .i64 (.var 1), .int .i64 (.var 2), .int .i64 (.var 3), .anys, .anys], .int .i64 (.var 4)]
noncomputable def rfrmR1h1 (k : Nat) : Bool := ckM 8 [⟨false, .eql, 0, 0, false⟩, ⟨false, .eql, 0, 1, true⟩, ⟨false, .geq, 1, 0, true⟩, ⟨false, .leq, 1, 16, true⟩, ⟨false, .geq, 2, 1, true⟩, ⟨false, .leq, 2, 64, false⟩] [.and 4 3 k] 4 [.int .i64 (.var 0), .agg [.int .i64 (.var 1), .int .i64 (.var 2), .int .i64 (.var 3), .anys, .anys], .int .i64 (.var 4)]
noncomputable def rfrmR2l1 (k : Nat) : Bool := ckM 8 [⟨false, .eql, 0, 0, false⟩, ⟨false, .eql, 0, 1, true⟩, ⟨false, .geq, 1, 0, true⟩, ⟨false, .leq, 1, 16, true⟩, ⟨false, .geq, 2, 1, true⟩, ⟨false, .leq, 2, 64, true⟩, ⟨false, .geq, 3, 0, false⟩] [.and 4 3 k] 4 [.int .i64 (.var 0), .agg [.int .i64 (.var 1), .int .i64 (.var 2), .int .i64 (.var 3), .anys, .anys], .int .i64 (.var 4)]
noncomputable def rfrmR2h1 (k : Nat) : Bool := ckM 8 [⟨false, .eql, 0, 0, false⟩, ⟨false, .eql, 0, 1, true⟩, ⟨false, .geq, 1, 0, true⟩, ⟨false, .leq, 1, 16, true⟩, ⟨false, .geq, 2, 1, true⟩, ⟨false, .leq, 2, 64, true⟩, ⟨false, .geq, 3, 0, true⟩, ⟨false, .leq, 3, 1000000, false⟩] [.and 4 3 k] 4 [.int .i64 (.var 0), .agg [.int .i64 (.var 1), .int .i64 (.var 2), .int .i64 (.var 3), .anys, .anys], .int .i64 (.var 4)]
noncomputable def rfrmRf1 (k : Nat) : Bool := ckM 8 [⟨false, .eql, 0, 0, false⟩, ⟨false, .eql, 0, 1, true⟩, ⟨false, .geq, 1, 0, true⟩, ⟨false, .leq, 1, 16, true⟩, ⟨false, .geq, 2, 1, true⟩, ⟨false, .leq, 2, 64, true⟩, ⟨false, .geq, 3, 0, true⟩, ⟨false, .leq, 3, 1000000, true⟩] [.and 4 3 k] 4 [.int .i64 (.var 0), .agg [.int .i64 (.var 1), .int .i64 (.var 2), .int .i64 (.var 3), .anys, .anys], .int .i64 (.var 4)]
set_option maxRecDepth 100000 in
theorem rfrm_E_1 : rfrmE1 1 = true := by decide +kernel
set_option maxRecDepth 100000 in
theorem rfrm_W0h_1 : rfrmW0h1 1 = true := by decide +kernel
set_option maxRecDepth 100000 in
theorem rfrm_W1h_1 : rfrmW1h1 1 = true := by decide +kernel
set_option maxRecDepth 100000 in
theorem rfrm_W2h_1 : rfrmW2h1 1 = true := by decide +kernel
set_option maxRecDepth 100000 in
theorem rfrm_R0l_1 : rfrmR0l1 1 = true := by decide +kernel
set_option maxRecDepth 100000 in
theorem rfrm_R1l_1 : rfrmR1l1 1 = true := by decide +kernel
set_option maxRecDepth 100000 in
theorem rfrm_R2l_1 : rfrmR2l1 1 = true := by decide +kernel
set_option maxRecDepth 100000 in
theorem rfrm_Rf_1 : rfrmRf1 1 = true := by decide +kernel
end Go.Proofs.YtgccmnnenhncpaaGreatDoor
