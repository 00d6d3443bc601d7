/-
  WalkIfs: cases, run (4).
-/
import Derived.Test.YteapooonilhaiaaGreatDoorWalkBase
namespace Go.Proofs.YteapooonilhaiaaGreatDoor
open Go Vx

noncomputable def wifsB4 (p : Nat) (q : Nat) (r : Nat) : Bool := runM 5 [⟨0, 4294967295, zLo p, zHi p⟩, ⟨1, 4294967295, wLo q, wHi q⟩, ⟨2, 4294967295, wLo r, wHi r⟩] [] 4 [.int .i64 (.var 0), .int .i64 (.var 1), .int .i64 (.var 2)]
set_option maxRecDepth 100000 in
theorem wifs_0_0_4 : wifsB4 0 0 4 = true := by decide +kernel
set_option maxRecDepth 100000 in
theorem wifs_0_1_1 : wifsB4 0 1 1 = true := by decide +kernel
set_option maxRecDepth 100000 in
theorem wifs_0_1_9 : wifsB4 0 1 9 = true := by decide +kernel
set_option maxRecDepth 100000 in
theorem wifs_0_2_6 : wifsB4 0 2 6 = true := by decide +kernel
set_option maxRecDepth 100000 in
theorem wifs_0_3_3 : wifsB4 0 3 3 = true := by decide +kernel
set_option maxRecDepth 100000 in
theorem wifs_0_4_0 : wifsB4 0 4 0 = true := by decide +kernel
set_option maxRecDepth 100000 in
theorem wifs_0_4_8 : wifsB4 0 4 8 = true := by decide +kernel
set_option maxRecDepth 100000 in
theorem wifs_0_5_5 : wifsB4 0 5 5 = true := by decide +kernel
set_option maxRecDepth 100000 in
theorem wifs_0_6_2 : wifsB4 0 6 2 = true := by decide +kernel
set_option maxRecDepth 100000 in
theorem wifs_0_6_10 : wifsB4 0 6 10 = true := by decide +kernel
set_option maxRecDepth 100000 in
theorem wifs_0_7_7 : wifsB4 0 7 7 = true := by decide +kernel
set_option maxRecDepth 100000 in
theorem wifs_0_8_4 : wifsB4 0 8 4 = true := by decide +kernel
set_option maxRecDepth 100000 in
theorem wifs_0_9_1 : wifsB4 0 9 1 = true := by decide +kernel
set_option maxRecDepth 100000 in
theorem wifs_0_9_9 : wifsB4 0 9 9 = true := by decide +kernel
set_option maxRecDepth 100000 in
theorem wifs_0_10_6 : wifsB4 0 10 6 = true := by decide +kernel
set_option maxRecDepth 100000 in
theorem wifs_1_0_3 : wifsB4 1 0 3 = true := by decide +kernel
set_option maxRecDepth 100000 in
theorem wifs_1_1_0 : wifsB4 1 1 0 = true := by decide +kernel
set_option maxRecDepth 100000 in
theorem wifs_1_1_8 : wifsB4 1 1 8 = true := by decide +kernel
set_option maxRecDepth 100000 in
theorem wifs_1_2_5 : wifsB4 1 2 5 = true := by decide +kernel
set_option maxRecDepth 100000 in
theorem wifs_1_3_2 : wifsB4 1 3 2 = true := by decide +kernel
set_option maxRecDepth 100000 in
theorem wifs_1_3_10 : wifsB4 1 3 10 = true := by decide +kernel
set_option maxRecDepth 100000 in
theorem wifs_1_4_7 : wifsB4 1 4 7 = true := by decide +kernel
set_option maxRecDepth 100000 in
theorem wifs_1_5_4 : wifsB4 1 5 4 = true := by decide +kernel
set_option maxRecDepth 100000 in
theorem wifs_1_6_1 : wifsB4 1 6 1 = true := by decide +kernel
set_option maxRecDepth 100000 in
theorem wifs_1_6_9 : wifsB4 1 6 9 = true := by decide +kernel
set_option maxRecDepth 100000 in
theorem wifs_1_7_6 : wifsB4 1 7 6 = true := by decide +kernel
set_option maxRecDepth 100000 in
theorem wifs_1_8_3 : wifsB4 1 8 3 = true := by decide +kernel
set_option maxRecDepth 100000 in
theorem wifs_1_9_0 : wifsB4 1 9 0 = true := by decide +kernel
set_option maxRecDepth 100000 in
theorem wifs_1_9_8 : wifsB4 1 9 8 = true := by decide +kernel
set_option maxRecDepth 100000 in
theorem wifs_1_10_5 : wifsB4 1 10 5 = true := by decide +kernel
end Go.Proofs.YteapooonilhaiaaGreatDoor
