/-
  WalkIfs: cases, run (2).
-/
import Derived.Test.YteapooonilhaiaaGreatDoorWalkBase
namespace Go.Proofs.YteapooonilhaiaaGreatDoor
open Go Vx

noncomputable def wifsB2 (p : Nat) (q : Nat) (r : Nat) : Bool := runM 5 [⟨0, 4294967295, zLo p, zHi p⟩, ⟨1, 4294967295, wLo q, wHi q⟩, ⟨2, 4294967295, wLo r, wHi r⟩] [] 4 [.int .i64 (.var 0), .int .i64 (.var 1), .int .i64 (.var 2)]
set_option maxRecDepth 100000 in
theorem wifs_0_0_2 : wifsB2 0 0 2 = true := by decide +kernel
set_option maxRecDepth 100000 in
theorem wifs_0_0_10 : wifsB2 0 0 10 = true := by decide +kernel
set_option maxRecDepth 100000 in
theorem wifs_0_1_7 : wifsB2 0 1 7 = true := by decide +kernel
set_option maxRecDepth 100000 in
theorem wifs_0_2_4 : wifsB2 0 2 4 = true := by decide +kernel
set_option maxRecDepth 100000 in
theorem wifs_0_3_1 : wifsB2 0 3 1 = true := by decide +kernel
set_option maxRecDepth 100000 in
theorem wifs_0_3_9 : wifsB2 0 3 9 = true := by decide +kernel
set_option maxRecDepth 100000 in
theorem wifs_0_4_6 : wifsB2 0 4 6 = true := by decide +kernel
set_option maxRecDepth 100000 in
theorem wifs_0_5_3 : wifsB2 0 5 3 = true := by decide +kernel
set_option maxRecDepth 100000 in
theorem wifs_0_6_0 : wifsB2 0 6 0 = true := by decide +kernel
set_option maxRecDepth 100000 in
theorem wifs_0_6_8 : wifsB2 0 6 8 = true := by decide +kernel
set_option maxRecDepth 100000 in
theorem wifs_0_7_5 : wifsB2 0 7 5 = true := by decide +kernel
set_option maxRecDepth 100000 in
theorem wifs_0_8_2 : wifsB2 0 8 2 = true := by decide +kernel
set_option maxRecDepth 100000 in
theorem wifs_0_8_10 : wifsB2 0 8 10 = true := by decide +kernel
set_option maxRecDepth 100000 in
theorem wifs_0_9_7 : wifsB2 0 9 7 = true := by decide +kernel
set_option maxRecDepth 100000 in
theorem wifs_0_10_4 : wifsB2 0 10 4 = true := by decide +kernel
set_option maxRecDepth 100000 in
theorem wifs_1_0_1 : wifsB2 1 0 1 = true := by decide +kernel
set_option maxRecDepth 100000 in
theorem wifs_1_0_9 : wifsB2 1 0 9 = true := by decide +kernel
set_option maxRecDepth 100000 in
theorem wifs_1_1_6 : wifsB2 1 1 6 = true := by decide +kernel
set_option maxRecDepth 100000 in
theorem wifs_1_2_3 : wifsB2 1 2 3 = true := by decide +kernel
set_option maxRecDepth 100000 in
theorem wifs_1_3_0 : wifsB2 1 3 0 = true := by decide +kernel
set_option maxRecDepth 100000 in
theorem wifs_1_3_8 : wifsB2 1 3 8 = true := by decide +kernel
set_option maxRecDepth 100000 in
theorem wifs_1_4_5 : wifsB2 1 4 5 = true := by decide +kernel
set_option maxRecDepth 100000 in
theorem wifs_1_5_2 : wifsB2 1 5 2 = true := by decide +kernel
set_option maxRecDepth 100000 in
theorem wifs_1_5_10 : wifsB2 1 5 10 = true := by decide +kernel
set_option maxRecDepth 100000 in
theorem wifs_1_6_7 : wifsB2 1 6 7 = true := by decide +kernel
set_option maxRecDepth 100000 in
theorem wifs_1_7_4 : wifsB2 1 7 4 = true := by decide +kernel
set_option maxRecDepth 100000 in
theorem wifs_1_8_1 : wifsB2 1 8 1 = true := by decide +kernel
set_option maxRecDepth 100000 in
theorem wifs_1_8_9 : wifsB2 1 8 9 = true := by decide +kernel
set_option maxRecDepth 100000 in
theorem wifs_1_9_6 : wifsB2 1 9 6 = true := by decide +kernel
set_option maxRecDepth 100000 in
theorem wifs_1_10_3 : wifsB2 1 10 3 = true := by decide +kernel
end Go.Proofs.YteapooonilhaiaaGreatDoor
