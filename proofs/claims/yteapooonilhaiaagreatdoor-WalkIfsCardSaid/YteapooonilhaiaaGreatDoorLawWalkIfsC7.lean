/-
  WalkIfs: cases, run (7).
-/
import Derived.Test.YteapooonilhaiaaGreatDoorWalkBase
namespace Go.Proofs.YteapooonilhaiaaGreatDoor
open Go Vx

noncomputable def wifsB7 (p : Nat) (q : Nat) (r : Nat) : Bool := runM 5 [⟨0, 4294967295, zLo p, zHi p⟩, ⟨1, 4294967295, wLo q, wHi q⟩, ⟨2, 4294967295, wLo r, wHi r⟩] [] 4 [.int .i64 (.var 0), .int .i64 (.var 1), .int .i64 (.var 2)]
set_option maxRecDepth 100000 in
theorem wifs_0_0_7 : wifsB7 0 0 7 = true := by decide +kernel
set_option maxRecDepth 100000 in
theorem wifs_0_1_4 : wifsB7 0 1 4 = true := by decide +kernel
set_option maxRecDepth 100000 in
theorem wifs_0_2_1 : wifsB7 0 2 1 = true := by decide +kernel
set_option maxRecDepth 100000 in
theorem wifs_0_2_9 : wifsB7 0 2 9 = true := by decide +kernel
set_option maxRecDepth 100000 in
theorem wifs_0_3_6 : wifsB7 0 3 6 = true := by decide +kernel
set_option maxRecDepth 100000 in
theorem wifs_0_4_3 : wifsB7 0 4 3 = true := by decide +kernel
set_option maxRecDepth 100000 in
theorem wifs_0_5_0 : wifsB7 0 5 0 = true := by decide +kernel
set_option maxRecDepth 100000 in
theorem wifs_0_5_8 : wifsB7 0 5 8 = true := by decide +kernel
set_option maxRecDepth 100000 in
theorem wifs_0_6_5 : wifsB7 0 6 5 = true := by decide +kernel
set_option maxRecDepth 100000 in
theorem wifs_0_7_2 : wifsB7 0 7 2 = true := by decide +kernel
set_option maxRecDepth 100000 in
theorem wifs_0_7_10 : wifsB7 0 7 10 = true := by decide +kernel
set_option maxRecDepth 100000 in
theorem wifs_0_8_7 : wifsB7 0 8 7 = true := by decide +kernel
set_option maxRecDepth 100000 in
theorem wifs_0_9_4 : wifsB7 0 9 4 = true := by decide +kernel
set_option maxRecDepth 100000 in
theorem wifs_0_10_1 : wifsB7 0 10 1 = true := by decide +kernel
set_option maxRecDepth 100000 in
theorem wifs_0_10_9 : wifsB7 0 10 9 = true := by decide +kernel
set_option maxRecDepth 100000 in
theorem wifs_1_0_6 : wifsB7 1 0 6 = true := by decide +kernel
set_option maxRecDepth 100000 in
theorem wifs_1_1_3 : wifsB7 1 1 3 = true := by decide +kernel
set_option maxRecDepth 100000 in
theorem wifs_1_2_0 : wifsB7 1 2 0 = true := by decide +kernel
set_option maxRecDepth 100000 in
theorem wifs_1_2_8 : wifsB7 1 2 8 = true := by decide +kernel
set_option maxRecDepth 100000 in
theorem wifs_1_3_5 : wifsB7 1 3 5 = true := by decide +kernel
set_option maxRecDepth 100000 in
theorem wifs_1_4_2 : wifsB7 1 4 2 = true := by decide +kernel
set_option maxRecDepth 100000 in
theorem wifs_1_4_10 : wifsB7 1 4 10 = true := by decide +kernel
set_option maxRecDepth 100000 in
theorem wifs_1_5_7 : wifsB7 1 5 7 = true := by decide +kernel
set_option maxRecDepth 100000 in
theorem wifs_1_6_4 : wifsB7 1 6 4 = true := by decide +kernel
set_option maxRecDepth 100000 in
theorem wifs_1_7_1 : wifsB7 1 7 1 = true := by decide +kernel
set_option maxRecDepth 100000 in
theorem wifs_1_7_9 : wifsB7 1 7 9 = true := by decide +kernel
set_option maxRecDepth 100000 in
theorem wifs_1_8_6 : wifsB7 1 8 6 = true := by decide +kernel
set_option maxRecDepth 100000 in
theorem wifs_1_9_3 : wifsB7 1 9 3 = true := by decide +kernel
set_option maxRecDepth 100000 in
theorem wifs_1_10_0 : wifsB7 1 10 0 = true := by decide +kernel
set_option maxRecDepth 100000 in
theorem wifs_1_10_8 : wifsB7 1 10 8 = true := by decide +kernel
end Go.Proofs.YteapooonilhaiaaGreatDoor
