/-
  RunForms: cases, run (0).
-/
import Derived.Test.YtgccmnnenhncpaaGreatDoorLawRunFormsB
namespace Go.Proofs.YtgccmnnenhncpaaGreatDoor
open Go Vx

noncomputable def rfrmE0 (k : Nat) : Bool := ckM 8 [⟨false, .eql, 0, 0, false⟩, ⟨false, .eql, 0, 1, false⟩] [.and 4 3 k] 4 [.int .i64 (.var 0), .agg [.int .i64 (.var 1), .int .i64 (.var 2), .int .i64 (.var 3), .anys, .anys], .int .i64 (.var 4)]
noncomputable def rfrmW0l0 (k : Nat) : Bool := ckM 8 [⟨false, .eql, 0, 0, true⟩, ⟨false, .geq, 1, 0, false⟩] [.and 4 3 k] 4 [.int .i64 (.var 0), .agg [.int .i64 (.var 1), .int .i64 (.var 2), .int .i64 (.var 3), .anys, .anys], .int .i64 (.var 4)]
noncomputable def rfrmW0h0 (k : Nat) : Bool := ckM 8 [⟨false, .eql, 0, 0, true⟩, ⟨false, .geq, 1, 0, true⟩, ⟨false, .leq, 1, 16, false⟩] [.and 4 3 k] 4 [.int .i64 (.var 0), .agg [.int .i64 (.var 1), .int .i64 (.var 2), .int .i64 (.var 3), .anys, .anys], .int .i64 (.var 4)]
noncomputable def rfrmW1l0 (k : Nat) : Bool := ckM 8 [⟨false, .eql, 0, 0, true⟩, ⟨false, .geq, 1, 0, true⟩, ⟨false, .leq, 1, 16, true⟩, ⟨false, .geq, 2, 1, false⟩] [.and 4 3 k] 4 [.int .i64 (.var 0), .agg [.int .i64 (.var 1), .int .i64 (.var 2), .int .i64 (.var 3), .anys, .anys], .int .i64 (.var 4)]
noncomputable def rfrmW1h0 (k : Nat) : Bool := ckM 8 [⟨false, .eql, 0, 0, true⟩, ⟨false, .geq, 1, 0, true⟩, ⟨false, .leq, 1, 16, true⟩, ⟨false, .geq, 2, 1, true⟩, ⟨false, .leq, 2, 64, false⟩] [.and 4 3 k] 4 [.int .i64 (.var 0), .agg [.int .i64 (.var 1), .int .i64 (.var 2), .int .i64 (.var 3), .anys, .anys], .int .i64 (.var 4)]
noncomputable def rfrmW2l0 (k : Nat) : Bool := ckM 8 [⟨false, .eql, 0, 0, true⟩, ⟨false, .geq, 1, 0, true⟩, ⟨false, .leq, 1, 16, true⟩, ⟨false, .geq, 2, 1, true⟩, ⟨false, .leq, 2, 64, true⟩, ⟨false, .geq, 3, 0, false⟩] [.and 4 3 k] 4 [.int .i64 (.var 0), .agg [.int .i64 (.var 1), .int .i64 (.var 2), .int .i64 (.var 3), .anys, .anys], .int .i64 (.var 4)]
noncomputable def rfrmW2h0 (k : Nat) : Bool := ckM 8 [⟨false, .eql, 0, 0, true⟩, ⟨false, .geq, 1, 0, true⟩, ⟨false, .leq, 1, 16, true⟩, ⟨false, .geq, 2, 1, true⟩, ⟨false, .leq, 2, 64, true⟩, ⟨false, .geq, 3, 0, true⟩, ⟨false, .leq, 3, 1000000, false⟩] [.and 4 3 k] 4 [.int .i64 (.var 0), .agg [.int .i64 (.var 1), .int .i64 (.var 2), .int .i64 (.var 3), .anys, .anys], .int .i64 (.var 4)]
noncomputable def rfrmWf0 (k : Nat) : Bool := ckM 8 [⟨false, .eql, 0, 0, true⟩, ⟨false, .geq, 1, 0, true⟩, ⟨false, .leq, 1, 16, true⟩, ⟨false, .geq, 2, 1, true⟩, ⟨false, .leq, 2, 64, true⟩, ⟨false, .geq, 3, 0, true⟩, ⟨false, .leq, 3, 1000000, true⟩] [.and 4 3 k] 4 [.int .i64 (.var 0), .agg [.int .i64 (.var 1), .int .i64 (.var 2), .int .i64 (.var 3), .anys, .anys], .int .i64 (.var 4)]
noncomputable def rfrmR0l0 (k : Nat) : Bool := ckM 8 [⟨false, .eql, 0, 0, false⟩, ⟨false, .eql, 0, 1, true⟩, ⟨false, .geq, 1, 0, false⟩] [.and 4 3 k] 4 [.int .i64 (.var 0), .agg [.int .i64 (.var 1), .int .i64 (.var 2), .int .i64 (.var 3), .anys, .anys], .int .i64 (.var 4)]
noncomputable def rfrmR0h0 (k : Nat) : Bool := ckM 8 [⟨false, .eql, 0, 0, false⟩, ⟨false, .eql, 0, 1, true⟩, ⟨false, .geq, 1, 0, true⟩, ⟨false, .leq, 1, 16, false⟩] [.and 4 3 k] 4 [.int .i64 (.var 0), .agg [.int .i64 (.var 1), .int .i64 (.var 2), .int .i64 (.var 3), .anys, .anys], .int .i64 (.var 4)]
noncomputable def rfrmR1l0 (k : Nat) : Bool := ckM 8 [⟨false, .eql, 0, 0, false⟩, ⟨false, .eql, 0, 1, true⟩, ⟨false, .geq, 1, 0, true⟩, ⟨false, .leq, 1, 16, true⟩, ⟨false, .geq, 2, 1, false⟩] [.and 4 3 k] 4 [.int .i64 (.var 0), .agg [.int .i64 (.var 1), .int .i64 (.var 2), .int .i64 (.var 3), .anys, .anys], .int .i64 (.var 4)]
noncomputable def rfrmR1h0 (k : Nat) : Bool := ckM 8 [⟨false, .eql, 0, 0, false⟩, ⟨false, .eql, 0, 1, true⟩, ⟨false, .geq, 1, 0, true⟩, ⟨false, .leq, 1, 16, true⟩, ⟨false, .geq, 2, 1, true⟩, ⟨false, .leq, 2, 64, false⟩] [.and 4 3 k] 4 [.int .i64 (.var 0), .agg [.int .i64 (.var 1), .int .i64 (.var 2), .int .i64 (.var 3), .anys, .anys], .int .i64 (.var 4)]
noncomputable def rfrmR2l0 (k : Nat) : Bool := ckM 8 [⟨false, .eql, 0, 0, false⟩, ⟨false, .eql, 0, 1, true⟩, ⟨false, .geq, 1, 0, true⟩, ⟨false, .leq, 1, 16, true⟩, ⟨false, .geq, 2, 1, true⟩, ⟨false, .leq, 2, 64, true⟩, ⟨false, .geq, 3, 0, false⟩] [.and 4 3 k] 4 [.int .i64 (.var 0), .agg [.int .i64 (.var 1), .int .i64 (.var 2), .int .i64 (.var 3), .anys, .anys], .int .i64 (.var 4)]
noncomputable def rfrmR2h0 (k : Nat) : Bool := ckM 8 [⟨false, .eql, 0, 0, false⟩, ⟨false, .eql, 0, 1, true⟩, ⟨false, .geq, 1, 0, true⟩, ⟨false, .leq, 1, 16, true⟩, ⟨false, .geq, 2, 1, true⟩, ⟨false, .leq, 2, 64, true⟩, ⟨false, .geq, 3, 0, true⟩, ⟨false, .leq, 3, 1000000, false⟩] [.and 4 3 k] 4 [.int .i64 (.var 0), .agg [.int .i64 (.var 1), .int .i64 (.var 2), .int .i64 (.var 3), .anys, .anys], .int .i64 (.var 4)]
noncomputable def rfrmRf0 (k : Nat) : Bool := ckM 8 [⟨false, .eql, 0, 0, false⟩, ⟨false, .eql, 0, 1, true⟩, ⟨false, .geq, 1, 0, true⟩, ⟨false, .leq, 1, 16, true⟩, ⟨false, .geq, 2, 1, true⟩, ⟨false, .leq, 2, 64, true⟩, ⟨false, .geq, 3, 0, true⟩, ⟨false, .leq, 3, 1000000, true⟩] [.and 4 3 k] 4 [.int .i64 (.var 0), .agg [.int .i64 (.var 1), .int .i64 (.var 2), .int .i64 (.var 3), .anys, .anys], .int .i64 (.var 4)]
set_option maxRecDepth 100000 in
theorem rfrm_E_0 : rfrmE0 0 = true := by decide +kernel
set_option maxRecDepth 100000 in
theorem rfrm_W0h_0 : rfrmW0h0 0 = true := by decide +kernel
set_option maxRecDepth 100000 in
theorem rfrm_W1h_0 : rfrmW1h0 0 = true := by decide +kernel
set_option maxRecDepth 100000 in
theorem rfrm_W2h_0 : rfrmW2h0 0 = true := by decide +kernel
set_option maxRecDepth 100000 in
theorem rfrm_R0l_0 : rfrmR0l0 0 = true := by decide +kernel
set_option maxRecDepth 100000 in
theorem rfrm_R1l_0 : rfrmR1l0 0 = true := by decide +kernel
set_option maxRecDepth 100000 in
theorem rfrm_R2l_0 : rfrmR2l0 0 = true := by decide +kernel
set_option maxRecDepth 100000 in
theorem rfrm_Rf_0 : rfrmRf0 0 = true := by decide +kernel
end Go.Proofs.YtgccmnnenhncpaaGreatDoor
