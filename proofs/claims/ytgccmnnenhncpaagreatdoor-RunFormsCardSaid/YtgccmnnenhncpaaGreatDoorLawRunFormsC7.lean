/-
  RunForms: cases, run (7).
-/
import Derived.Test.YtgccmnnenhncpaaGreatDoorLawRunFormsB
namespace Go.Proofs.YtgccmnnenhncpaaGreatDoor
open Go Vx

noncomputable def rfrmE7 (k : Nat) : Bool := ckM 8 [⟨false, .eql, 0, 0, false⟩, ⟨false, .eql, 0, 1, false⟩] [.and 4 3 k] 4 [.int .i64 (.var 0), .agg [.int .i64 (.var 1), .int .i64 (.var 2), .int .i64 (.var 3), .anys, .anys], .int .i64 (.var 4)]
noncomputable def rfrmW0l7 (k : Nat) : Bool := ckM 8 [⟨false, .eql, 0, 0, true⟩, ⟨false, .geq, 1, 0, false⟩] [.and 4 3 k] 4 [.int .i64 (.var 0), .agg [.int .i64 (.var 1), .int .i64 (.var 2), .int .i64 (.var 3), .anys, .anys], .int .i64 (.var 4)]
noncomputable def rfrmW0h7 (k : Nat) : Bool := ckM 8 [⟨false, .eql, 0, 0, true⟩, ⟨false, .geq, 1, 0, true⟩, ⟨false, .leq, 1, 16, false⟩] [.and 4 3 k] 4 [.int .i64 (.var 0), .agg [.int .i64 (.var 1), .int .i64 (.var 2), .int .i64 (.var 3), .anys, .anys], .int .i64 (.var 4)]
noncomputable def rfrmW1l7 (k : Nat) : Bool := ckM 8 [⟨false, .eql, 0, 0, true⟩, ⟨false, .geq, 1, 0, true⟩, ⟨false, .leq, 1, 16, true⟩, ⟨false, .geq, 2, 1, false⟩] [.and 4 3 k] 4 [.int .i64 (.var 0), .agg [.int .i64 (.var 1), .int .i64 (.var 2), .int .i64 (.var 3), .anys, .anys], .int .i64 (.var 4)]
noncomputable def rfrmW1h7 (k : Nat) : Bool := ckM 8 [⟨false, .eql, 0, 0, true⟩, ⟨false, .geq, 1, 0, true⟩, ⟨false, .leq, 1, 16, true⟩, ⟨false, .geq, 2, 1, true⟩, ⟨false, .leq, 2, 64, false⟩] [.and 4 3 k] 4 [.int .i64 (.var 0), .agg [.int .i64 (.var 1), .int .i64 (.var 2), .int .i64 (.var 3), .anys, .anys], .int .i64 (.var 4)]
noncomputable def rfrmW2l7 (k : Nat) : Bool := ckM 8 [⟨false, .eql, 0, 0, true⟩, ⟨false, .geq, 1, 0, true⟩, ⟨false, .leq, 1, 16, true⟩, ⟨false, .geq, 2, 1, true⟩, ⟨false, .leq, 2, 64, true⟩, ⟨false, .geq, 3, 0, false⟩] [.and 4 3 k] 4 [.int .i64 (.var 0), .agg [.int .i64 (.var 1), .int .i64 (.var 2), .int .i64 (.var 3), .anys, .anys], .int .i64 (.var 4)]
noncomputable def rfrmW2h7 (k : Nat) : Bool := ckM 8 [⟨false, .eql, 0, 0, true⟩, ⟨false, .geq, 1, 0, true⟩, ⟨false, .leq, 1, 16, true⟩, ⟨false, .geq, 2, 1, true⟩, ⟨false, .leq, 2, 64, true⟩, ⟨false, .geq, 3, 0, true⟩, ⟨false, .leq, 3, 1000000, false⟩] [.and 4 3 k] 4 [.int .i64 (.var 0), .agg [.int .i64 (.var 1), .int .i64 (.var 2), .int .i64 (.var 3), .anys, .anys], .int .i64 (.var 4)]
noncomputable def rfrmWf7 (k : Nat) : Bool := ckM 8 [⟨false, .eql, 0, 0, true⟩, ⟨false, .geq, 1, 0, true⟩, ⟨false, .leq, 1, 16, true⟩, ⟨false, .geq, 2, 1, true⟩, ⟨false, .leq, 2, 64, true⟩, ⟨false, .geq, 3, 0, true⟩, ⟨false, .leq, 3, 1000000, true⟩] [.and 4 3 k] 4 [.int .i64 (.var 0), .agg [.int .i64 (.var 1), .int .i64 (.var 2), .int .i64 (.var 3), .anys, .anys], .int .i64 (.var 4)]
noncomputable def rfrmR0l7 (k : Nat) : Bool := ckM 8 [⟨false, .eql, 0, 0, false⟩, ⟨false, .eql, 0, 1, true⟩, ⟨false, .geq, 1, 0, false⟩] [.and 4 3 k] 4 [.int .i64 (.var 0), .agg [.int .i64 (.var 1), .int .i64 (.var 2), .int .i64 (.var 3), .anys, .anys], .int .i64 (.var 4)]
noncomputable def rfrmR0h7 (k : Nat) : Bool := ckM 8 [⟨false, .eql, 0, 0, false⟩, ⟨false, .eql, 0, 1, true⟩, ⟨false, .geq, 1, 0, true⟩, ⟨false, .leq, 1, 16, false⟩] [.and 4 3 k] 4 [.int .i64 (.var 0), .agg [.int .i64 (.var 1), .int .i64 (.var 2), .int .i64 (.var 3), .anys, .anys], .int .i64 (.var 4)]
noncomputable def rfrmR1l7 (k : Nat) : Bool := ckM 8 [⟨false, .eql, 0, 0, false⟩, ⟨false, .eql, 0, 1, true⟩, ⟨false, .geq, 1, 0, true⟩, ⟨false, .leq, 1, 16, true⟩, ⟨false, .geq, 2, 1, false⟩] [.and 4 3 k] 4 [.int .i64 (.var 0), .agg [.int .i64 (.var 1), .int .i64 (.var 2), .int .i64 (.var 3), .anys, .anys], .int .i64 (.var 4)]
noncomputable def rfrmR1h7 (k : Nat) : Bool := ckM 8 [⟨false, .eql, 0, 0, false⟩, ⟨false, .eql, 0, 1, true⟩, ⟨false, .geq, 1, 0, true⟩, ⟨false, .leq, 1, 16, true⟩, ⟨false, .geq, 2, 1, true⟩, ⟨false, .leq, 2, 64, false⟩] [.and 4 3 k] 4 [.int .i64 (.var 0), .agg [.int .i64 (.var 1), .int .i64 (.var 2), .int .i64 (.var 3), .anys, .anys], .int .i64 (.var 4)]
noncomputable def rfrmR2l7 (k : Nat) : Bool := ckM 8 [⟨false, .eql, 0, 0, false⟩, ⟨false, .eql, 0, 1, true⟩, ⟨false, .geq, 1, 0, true⟩, ⟨false, .leq, 1, 16, true⟩, ⟨false, .geq, 2, 1, true⟩, ⟨false, .leq, 2, 64, true⟩, ⟨false, .geq, 3, 0, false⟩] [.and 4 3 k] 4 [.int .i64 (.var 0), .agg [.int .i64 (.var 1), .int .i64 (.var 2), .int .i64 (.var 3), .anys, .anys], .int .i64 (.var 4)]
noncomputable def rfrmR2h7 (k : Nat) : Bool := ckM 8 [⟨false, .eql, 0, 0, false⟩, ⟨false, .eql, 0, 1, true⟩, ⟨false, .geq, 1, 0, true⟩, ⟨false, .leq, 1, 16, true⟩, ⟨false, .geq, 2, 1, true⟩, ⟨false, .leq, 2, 64, true⟩, ⟨false, .geq, 3, 0, true⟩, ⟨false, .leq, 3, 1000000, false⟩] [.and 4 3 k] 4 [.int .i64 (.var 0), .agg [.int .i64 (.var 1), .int .i64 (.var 2), .int .i64 (.var 3), .anys, .anys], .int .i64 (.var 4)]
noncomputable def rfrmRf7 (k : Nat) : Bool := ckM 8 [⟨false, .eql, 0, 0, false⟩, ⟨false, .eql, 0, 1, true⟩, ⟨false, .geq, 1, 0, true⟩, ⟨false, .leq, 1, 16, true⟩, ⟨false, .geq, 2, 1, true⟩, ⟨false, .leq, 2, 64, true⟩, ⟨false, .geq, 3, 0, true⟩, ⟨false, .leq, 3, 1000000, true⟩] [.and 4 3 k] 4 [.int .i64 (.var 0), .agg [.int .i64 (.var 1), .int .i64 (.var 2), .int .i64 (.var 3), .anys, .anys], .int .i64 (.var 4)]
set_option maxRecDepth 100000 in
theorem rfrm_W0l_3 : rfrmW0l7 3 = true := by decide +kernel
set_option maxRecDepth 100000 in
theorem rfrm_W1l_3 : rfrmW1l7 3 = true := by decide +kernel
set_option maxRecDepth 100000 in
theorem rfrm_W2l_3 : rfrmW2l7 3 = true := by decide +kernel
set_option maxRecDepth 100000 in
theorem rfrm_Wf_3 : rfrmWf7 3 = true := by decide +kernel
set_option maxRecDepth 100000 in
theorem rfrm_R0h_3 : rfrmR0h7 3 = true := by decide +kernel
set_option maxRecDepth 100000 in
theorem rfrm_R1h_3 : rfrmR1h7 3 = true := by decide +kernel
set_option maxRecDepth 100000 in
theorem rfrm_R2h_3 : rfrmR2h7 3 = true := by decide +kernel
end Go.Proofs.YtgccmnnenhncpaaGreatDoor
