/-
  RunKeeps: cases, run (1).
-/
import Derived.Test.YtgccmnnenhncpaaGreatDoorRunBase
namespace Go.Proofs.YtgccmnnenhncpaaGreatDoor
open Go Vx

noncomputable def rkeeN1 (n e : Nat) (s : Bool) : Bool := ckM 8 [] [.and 0 1 e] 5 [.inp (.lit n) n, .int .i64 (.var 0), .bool s]
noncomputable def rkeeL1 (e : Nat) (s : Bool) : Bool := ckM 8 [⟨true, .lss, 1, 0, true⟩, ⟨true, .lss, 1, 1, true⟩, ⟨true, .lss, 1, 2, true⟩, ⟨true, .lss, 1, 3, true⟩, ⟨true, .lss, 1, 4, true⟩, ⟨true, .lss, 1, 5, true⟩, ⟨true, .lss, 1, 6, true⟩, ⟨true, .lss, 1, 7, true⟩, ⟨true, .lss, 1, 8, true⟩, ⟨true, .lss, 1, 9, true⟩, ⟨true, .lss, 1, 10, true⟩, ⟨true, .lss, 1, 11, true⟩, ⟨true, .lss, 1, 12, true⟩, ⟨true, .lss, 1, 13, true⟩, ⟨true, .lss, 1, 14, true⟩, ⟨true, .lss, 1, 15, true⟩, ⟨true, .lss, 1, 16, true⟩, ⟨true, .lss, 1, 17, true⟩, ⟨true, .lss, 1, 18, true⟩, ⟨true, .lss, 1, 19, true⟩, ⟨true, .lss, 1, 20, true⟩] [.and 0 1 e] 5 [.inp (.var 1) 20, .int .i64 (.var 0), .bool s]
set_option maxRecDepth 100000 in
theorem rkee_L_0_f : rkeeL1 0 false = true := by decide +kernel
set_option maxRecDepth 100000 in
theorem rkee_18_0_f : rkeeN1 18 0 false = true := by decide +kernel
set_option maxRecDepth 100000 in
theorem rkee_15_0_f : rkeeN1 15 0 false = true := by decide +kernel
set_option maxRecDepth 100000 in
theorem rkee_12_0_f : rkeeN1 12 0 false = true := by decide +kernel
set_option maxRecDepth 100000 in
theorem rkee_9_0_f : rkeeN1 9 0 false = true := by decide +kernel
set_option maxRecDepth 100000 in
theorem rkee_6_0_f : rkeeN1 6 0 false = true := by decide +kernel
set_option maxRecDepth 100000 in
theorem rkee_3_0_f : rkeeN1 3 0 false = true := by decide +kernel
set_option maxRecDepth 100000 in
theorem rkee_0_0_f : rkeeN1 0 0 false = true := by decide +kernel
end Go.Proofs.YtgccmnnenhncpaaGreatDoor
