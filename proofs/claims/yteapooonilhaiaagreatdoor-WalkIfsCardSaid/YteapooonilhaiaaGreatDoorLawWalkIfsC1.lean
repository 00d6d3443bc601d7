/-
  WalkIfs: cases, run (1).
-/
import Derived.Test.YteapooonilhaiaaGreatDoorWalkBase
namespace Go.Proofs.YteapooonilhaiaaGreatDoor
open Go Vx

noncomputable def wifsB1 (p : Nat) (q : Nat) (r : Nat) : Bool := runM 5 [⟨0, 4294967295, zLo p, zHi p⟩, ⟨1, 4294967295, wLo q, wHi q⟩, ⟨2, 4294967295, wLo r, wHi r⟩] [] 4 [.int .i64 (.var 0), .int .i64 (.var 1), .int .i64 (.var 2)]
set_option maxRecDepth 100000 in
theorem wifs_0_0_1 : wifsB1 0 0 1 = true := by decide +kernel
set_option maxRecDepth 100000 in
theorem wifs_0_0_9 : wifsB1 0 0 9 = true := by decide +kernel
set_option maxRecDepth 100000 in
theorem wifs_0_1_6 : wifsB1 0 1 6 = true := by decide +kernel
set_option maxRecDepth 100000 in
theorem wifs_0_2_3 : wifsB1 0 2 3 = true := by decide +kernel
set_option maxRecDepth 100000 in
theorem wifs_0_3_0 : wifsB1 0 3 0 = true := by decide +kernel
set_option maxRecDepth 100000 in
theorem wifs_0_3_8 : wifsB1 0 3 8 = true := by decide +kernel
set_option maxRecDepth 100000 in
theorem wifs_0_4_5 : wifsB1 0 4 5 = true := by decide +kernel
set_option maxRecDepth 100000 in
theorem wifs_0_5_2 : wifsB1 0 5 2 = true := by decide +kernel
set_option maxRecDepth 100000 in
theorem wifs_0_5_10 : wifsB1 0 5 10 = true := by decide +kernel
set_option maxRecDepth 100000 in
theorem wifs_0_6_7 : wifsB1 0 6 7 = true := by decide +kernel
set_option maxRecDepth 100000 in
theorem wifs_0_7_4 : wifsB1 0 7 4 = true := by decide +kernel
set_option maxRecDepth 100000 in
theorem wifs_0_8_1 : wifsB1 0 8 1 = true := by decide +kernel
set_option maxRecDepth 100000 in
theorem wifs_0_8_9 : wifsB1 0 8 9 = true := by decide +kernel
set_option maxRecDepth 100000 in
theorem wifs_0_9_6 : wifsB1 0 9 6 = true := by decide +kernel
set_option maxRecDepth 100000 in
theorem wifs_0_10_3 : wifsB1 0 10 3 = true := by decide +kernel
set_option maxRecDepth 100000 in
theorem wifs_1_0_0 : wifsB1 1 0 0 = true := by decide +kernel
set_option maxRecDepth 100000 in
theorem wifs_1_0_8 : wifsB1 1 0 8 = true := by decide +kernel
set_option maxRecDepth 100000 in
theorem wifs_1_1_5 : wifsB1 1 1 5 = true := by decide +kernel
set_option maxRecDepth 100000 in
theorem wifs_1_2_2 : wifsB1 1 2 2 = true := by decide +kernel
set_option maxRecDepth 100000 in
theorem wifs_1_2_10 : wifsB1 1 2 10 = true := by decide +kernel
set_option maxRecDepth 100000 in
theorem wifs_1_3_7 : wifsB1 1 3 7 = true := by decide +kernel
set_option maxRecDepth 100000 in
theorem wifs_1_4_4 : wifsB1 1 4 4 = true := by decide +kernel
set_option maxRecDepth 100000 in
theorem wifs_1_5_1 : wifsB1 1 5 1 = true := by decide +kernel
set_option maxRecDepth 100000 in
theorem wifs_1_5_9 : wifsB1 1 5 9 = true := by decide +kernel
set_option maxRecDepth 100000 in
theorem wifs_1_6_6 : wifsB1 1 6 6 = true := by decide +kernel
set_option maxRecDepth 100000 in
theorem wifs_1_7_3 : wifsB1 1 7 3 = true := by decide +kernel
set_option maxRecDepth 100000 in
theorem wifs_1_8_0 : wifsB1 1 8 0 = true := by decide +kernel
set_option maxRecDepth 100000 in
theorem wifs_1_8_8 : wifsB1 1 8 8 = true := by decide +kernel
set_option maxRecDepth 100000 in
theorem wifs_1_9_5 : wifsB1 1 9 5 = true := by decide +kernel
set_option maxRecDepth 100000 in
theorem wifs_1_10_2 : wifsB1 1 10 2 = true := by decide +kernel
set_option maxRecDepth 100000 in
theorem wifs_1_10_10 : wifsB1 1 10 10 = true := by decide +kernel
end Go.Proofs.YteapooonilhaiaaGreatDoor
