/-
  WalkIfs: cases, run (3).
-/
import Derived.Test.YteapooonilhaiaaGreatDoorWalkBase
namespace Go.Proofs.YteapooonilhaiaaGreatDoor
open Go Vx

noncomputable def wifsB3 (p : Nat) (q : Nat) (r : Nat) : Bool := runM 5 [⟨0, 4294967295, zLo p, zHi p⟩, ⟨1, 4294967295, wLo q, wHi q⟩, ⟨2, 4294967295, wLo r, wHi r⟩] [] 4 [.int .i64 (.var 0), .int .i64 (.var 1), .int .i64 (.var 2)]
set_option maxRecDepth 100000 in
theorem wifs_0_0_3 : wifsB3 0 0 3 = true := by decide +kernel
set_option maxRecDepth 100000 in
theorem wifs_0_1_0 : wifsB3 0 1 0 = true := by decide +kernel
set_option maxRecDepth 100000 in
theorem wifs_0_1_8 : wifsB3 0 1 8 = true := by decide +kernel
set_option maxRecDepth 100000 in
theorem wifs_0_2_5 : wifsB3 0 2 5 = true := by decide +kernel
set_option maxRecDepth 100000 in
theorem wifs_0_3_2 : wifsB3 0 3 2 = true := by decide +kernel
set_option maxRecDepth 100000 in
theorem wifs_0_3_10 : wifsB3 0 3 10 = true := by decide +kernel
set_option maxRecDepth 100000 in
theorem wifs_0_4_7 : wifsB3 0 4 7 = true := by decide +kernel
set_option maxRecDepth 100000 in
theorem wifs_0_5_4 : wifsB3 0 5 4 = true := by decide +kernel
set_option maxRecDepth 100000 in
theorem wifs_0_6_1 : wifsB3 0 6 1 = true := by decide +kernel
set_option maxRecDepth 100000 in
theorem wifs_0_6_9 : wifsB3 0 6 9 = true := by decide +kernel
set_option maxRecDepth 100000 in
theorem wifs_0_7_6 : wifsB3 0 7 6 = true := by decide +kernel
set_option maxRecDepth 100000 in
theorem wifs_0_8_3 : wifsB3 0 8 3 = true := by decide +kernel
set_option maxRecDepth 100000 in
theorem wifs_0_9_0 : wifsB3 0 9 0 = true := by decide +kernel
set_option maxRecDepth 100000 in
theorem wifs_0_9_8 : wifsB3 0 9 8 = true := by decide +kernel
set_option maxRecDepth 100000 in
theorem wifs_0_10_5 : wifsB3 0 10 5 = true := by decide +kernel
set_option maxRecDepth 100000 in
theorem wifs_1_0_2 : wifsB3 1 0 2 = true := by decide +kernel
set_option maxRecDepth 100000 in
theorem wifs_1_0_10 : wifsB3 1 0 10 = true := by decide +kernel
set_option maxRecDepth 100000 in
theorem wifs_1_1_7 : wifsB3 1 1 7 = true := by decide +kernel
set_option maxRecDepth 100000 in
theorem wifs_1_2_4 : wifsB3 1 2 4 = true := by decide +kernel
set_option maxRecDepth 100000 in
theorem wifs_1_3_1 : wifsB3 1 3 1 = true := by decide +kernel
set_option maxRecDepth 100000 in
theorem wifs_1_3_9 : wifsB3 1 3 9 = true := by decide +kernel
set_option maxRecDepth 100000 in
theorem wifs_1_4_6 : wifsB3 1 4 6 = true := by decide +kernel
set_option maxRecDepth 100000 in
theorem wifs_1_5_3 : wifsB3 1 5 3 = true := by decide +kernel
set_option maxRecDepth 100000 in
theorem wifs_1_6_0 : wifsB3 1 6 0 = true := by decide +kernel
set_option maxRecDepth 100000 in
theorem wifs_1_6_8 : wifsB3 1 6 8 = true := by decide +kernel
set_option maxRecDepth 100000 in
theorem wifs_1_7_5 : wifsB3 1 7 5 = true := by decide +kernel
set_option maxRecDepth 100000 in
theorem wifs_1_8_2 : wifsB3 1 8 2 = true := by decide +kernel
set_option maxRecDepth 100000 in
theorem wifs_1_8_10 : wifsB3 1 8 10 = true := by decide +kernel
set_option maxRecDepth 100000 in
theorem wifs_1_9_7 : wifsB3 1 9 7 = true := by decide +kernel
set_option maxRecDepth 100000 in
theorem wifs_1_10_4 : wifsB3 1 10 4 = true := by decide +kernel
end Go.Proofs.YteapooonilhaiaaGreatDoor
