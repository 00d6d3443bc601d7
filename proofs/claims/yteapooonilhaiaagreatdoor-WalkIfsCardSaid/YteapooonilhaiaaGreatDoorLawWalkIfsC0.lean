/-
  WalkIfs: cases, run (0).
-/
import Derived.Test.YteapooonilhaiaaGreatDoorWalkBase
namespace Go.Proofs.YteapooonilhaiaaGreatDoor
open Go Vx

noncomputable def wifsB0 (p : Nat) (q : Nat) (r : Nat) : Bool := runM 5 [⟨0, 4294967295, zLo p, zHi p⟩, ⟨1, 4294967295, wLo q, wHi q⟩, ⟨2, 4294967295, wLo r, wHi r⟩] [] 4 [.int .i64 (.var 0), .int .i64 (.var 1), .int .i64 (.var 2)]
set_option maxRecDepth 100000 in
theorem wifs_0_0_0 : wifsB0 0 0 0 = true := by decide +kernel
set_option maxRecDepth 100000 in
theorem wifs_0_0_8 : wifsB0 0 0 8 = true := by decide +kernel
set_option maxRecDepth 100000 in
theorem wifs_0_1_5 : wifsB0 0 1 5 = true := by decide +kernel
set_option maxRecDepth 100000 in
theorem wifs_0_2_2 : wifsB0 0 2 2 = true := by decide +kernel
set_option maxRecDepth 100000 in
theorem wifs_0_2_10 : wifsB0 0 2 10 = true := by decide +kernel
set_option maxRecDepth 100000 in
theorem wifs_0_3_7 : wifsB0 0 3 7 = true := by decide +kernel
set_option maxRecDepth 100000 in
theorem wifs_0_4_4 : wifsB0 0 4 4 = true := by decide +kernel
set_option maxRecDepth 100000 in
theorem wifs_0_5_1 : wifsB0 0 5 1 = true := by decide +kernel
set_option maxRecDepth 100000 in
theorem wifs_0_5_9 : wifsB0 0 5 9 = true := by decide +kernel
set_option maxRecDepth 100000 in
theorem wifs_0_6_6 : wifsB0 0 6 6 = true := by decide +kernel
set_option maxRecDepth 100000 in
theorem wifs_0_7_3 : wifsB0 0 7 3 = true := by decide +kernel
set_option maxRecDepth 100000 in
theorem wifs_0_8_0 : wifsB0 0 8 0 = true := by decide +kernel
set_option maxRecDepth 100000 in
theorem wifs_0_8_8 : wifsB0 0 8 8 = true := by decide +kernel
set_option maxRecDepth 100000 in
theorem wifs_0_9_5 : wifsB0 0 9 5 = true := by decide +kernel
set_option maxRecDepth 100000 in
theorem wifs_0_10_2 : wifsB0 0 10 2 = true := by decide +kernel
set_option maxRecDepth 100000 in
theorem wifs_0_10_10 : wifsB0 0 10 10 = true := by decide +kernel
set_option maxRecDepth 100000 in
theorem wifs_1_0_7 : wifsB0 1 0 7 = true := by decide +kernel
set_option maxRecDepth 100000 in
theorem wifs_1_1_4 : wifsB0 1 1 4 = true := by decide +kernel
set_option maxRecDepth 100000 in
theorem wifs_1_2_1 : wifsB0 1 2 1 = true := by decide +kernel
set_option maxRecDepth 100000 in
theorem wifs_1_2_9 : wifsB0 1 2 9 = true := by decide +kernel
set_option maxRecDepth 100000 in
theorem wifs_1_3_6 : wifsB0 1 3 6 = true := by decide +kernel
set_option maxRecDepth 100000 in
theorem wifs_1_4_3 : wifsB0 1 4 3 = true := by decide +kernel
set_option maxRecDepth 100000 in
theorem wifs_1_5_0 : wifsB0 1 5 0 = true := by decide +kernel
set_option maxRecDepth 100000 in
theorem wifs_1_5_8 : wifsB0 1 5 8 = true := by decide +kernel
set_option maxRecDepth 100000 in
theorem wifs_1_6_5 : wifsB0 1 6 5 = true := by decide +kernel
set_option maxRecDepth 100000 in
theorem wifs_1_7_2 : wifsB0 1 7 2 = true := by decide +kernel
set_option maxRecDepth 100000 in
theorem wifs_1_7_10 : wifsB0 1 7 10 = true := by decide +kernel
set_option maxRecDepth 100000 in
theorem wifs_1_8_7 : wifsB0 1 8 7 = true := by decide +kernel
set_option maxRecDepth 100000 in
theorem wifs_1_9_4 : wifsB0 1 9 4 = true := by decide +kernel
set_option maxRecDepth 100000 in
theorem wifs_1_10_1 : wifsB0 1 10 1 = true := by decide +kernel
set_option maxRecDepth 100000 in
theorem wifs_1_10_9 : wifsB0 1 10 9 = true := by decide +kernel
end Go.Proofs.YteapooonilhaiaaGreatDoor
