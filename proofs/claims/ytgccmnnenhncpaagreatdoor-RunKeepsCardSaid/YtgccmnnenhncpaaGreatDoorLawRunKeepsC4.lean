/-
  RunKeeps: cases, run (4).
-/
import Derived.Test.YtgccmnnenhncpaaGreatDoorRunBase
namespace Go.Proofs.YtgccmnnenhncpaaGreatDoor
open Go Vx

noncomputable def rkeeN4 (n e : Nat) (s : Bool) : Bool := ckM 8 [] [.and 0 1 e] 5 [.inp (.lit n) n, .int .i64 (.var 0), .bool s]
noncomputable def rkeeL4 (e : Nat) (s : Bool) : Bool := ckM 8 [⟨true, .lss, 1, 0, true⟩, ⟨true, .lss, 1, 1, true⟩, ⟨true, .lss, 1, 2, true⟩, ⟨true, .lss, 1, 3, true⟩, ⟨true, .lss, 1, 4, true⟩, ⟨true, .lss, 1, 5, true⟩, ⟨true, .lss, 1, 6, true⟩, ⟨true, .lss, 1, 7, true⟩, ⟨true, .lss, 1, 8, true⟩, ⟨true, .lss, 1, 9, true⟩, ⟨true, .lss, 1, 10, true⟩, ⟨true, .lss, 1, 11, true⟩, ⟨true, .lss, 1, 12, true⟩, ⟨true, .lss, 1, 13, true⟩, ⟨true, .lss, 1, 14, true⟩, ⟨true, .lss, 1, 15, true⟩, ⟨true, .lss, 1, 16, true⟩, ⟨true, .lss, 1, 17, true⟩, ⟨true, .lss, 1, 18, true⟩, ⟨true, .lss, 1, 19, true⟩, ⟨true, .lss, 1, 20, true⟩] [.and 0 1 e] 5 [.inp (.var 1) 20, .int .i64 (.var 0), .bool s]
set_option maxRecDepth 100000 in
theorem rkee_20_0_t : rkeeN4 20 0 true = true := by decide +kernel
set_option maxRecDepth 100000 in
theorem rkee_17_0_t : rkeeN4 17 0 true = true := by decide +kernel
set_option maxRecDepth 100000 in
theorem rkee_14_0_t : rkeeN4 14 0 true = true := by decide +kernel
set_option maxRecDepth 100000 in
theorem rkee_11_0_t : rkeeN4 11 0 true = true := by decide +kernel
set_option maxRecDepth 100000 in
theorem rkee_8_0_t : rkeeN4 8 0 true = true := by decide +kernel
set_option maxRecDepth 100000 in
theorem rkee_5_0_t : rkeeN4 5 0 true = true := by decide +kernel
set_option maxRecDepth 100000 in
theorem rkee_2_0_t : rkeeN4 2 0 true = true := by decide +kernel
end Go.Proofs.YtgccmnnenhncpaaGreatDoor
