/-
  WalkIfs: cases, run (6).
-/
import Derived.Test.YteapooonilhaiaaGreatDoorWalkBase
namespace Go.Proofs.YteapooonilhaiaaGreatDoor
open Go Vx

noncomputable def wifsB6 (p : Nat) (q : Nat) (r : Nat) : Bool := runM 5 [⟨0, 4294967295, zLo p, zHi p⟩, ⟨1, 4294967295, wLo q, wHi q⟩, ⟨2, 4294967295, wLo r, wHi r⟩] [] 4 [.int .i64 (.var 0), .int .i64 (.var 1), .int .i64 (.var 2)]
set_option maxRecDepth 100000 in
theorem wifs_0_0_6 : wifsB6 0 0 6 = true := by decide +kernel
set_option maxRecDepth 100000 in
theorem wifs_0_1_3 : wifsB6 0 1 3 = true := by decide +kernel
set_option maxRecDepth 100000 in
theorem wifs_0_2_0 : wifsB6 0 2 0 = true := by decide +kernel
set_option maxRecDepth 100000 in
theorem wifs_0_2_8 : wifsB6 0 2 8 = true := by decide +kernel
set_option maxRecDepth 100000 in
theorem wifs_0_3_5 : wifsB6 0 3 5 = true := by decide +kernel
set_option maxRecDepth 100000 in
theorem wifs_0_4_2 : wifsB6 0 4 2 = true := by decide +kernel
set_option maxRecDepth 100000 in
theorem wifs_0_4_10 : wifsB6 0 4 10 = true := by decide +kernel
set_option maxRecDepth 100000 in
theorem wifs_0_5_7 : wifsB6 0 5 7 = true := by decide +kernel
set_option maxRecDepth 100000 in
theorem wifs_0_6_4 : wifsB6 0 6 4 = true := by decide +kernel
set_option maxRecDepth 100000 in
theorem wifs_0_7_1 : wifsB6 0 7 1 = true := by decide +kernel
set_option maxRecDepth 100000 in
theorem wifs_0_7_9 : wifsB6 0 7 9 = true := by decide +kernel
set_option maxRecDepth 100000 in
theorem wifs_0_8_6 : wifsB6 0 8 6 = true := by decide +kernel
set_option maxRecDepth 100000 in
theorem wifs_0_9_3 : wifsB6 0 9 3 = true := by decide +kernel
set_option maxRecDepth 100000 in
theorem wifs_0_10_0 : wifsB6 0 10 0 = true := by decide +kernel
set_option maxRecDepth 100000 in
theorem wifs_0_10_8 : wifsB6 0 10 8 = true := by decide +kernel
set_option maxRecDepth 100000 in
theorem wifs_1_0_5 : wifsB6 1 0 5 = true := by decide +kernel
set_option maxRecDepth 100000 in
theorem wifs_1_1_2 : wifsB6 1 1 2 = true := by decide +kernel
set_option maxRecDepth 100000 in
theorem wifs_1_1_10 : wifsB6 1 1 10 = true := by decide +kernel
set_option maxRecDepth 100000 in
theorem wifs_1_2_7 : wifsB6 1 2 7 = true := by decide +kernel
set_option maxRecDepth 100000 in
theorem wifs_1_3_4 : wifsB6 1 3 4 = true := by decide +kernel
set_option maxRecDepth 100000 in
theorem wifs_1_4_1 : wifsB6 1 4 1 = true := by decide +kernel
set_option maxRecDepth 100000 in
theorem wifs_1_4_9 : wifsB6 1 4 9 = true := by decide +kernel
set_option maxRecDepth 100000 in
theorem wifs_1_5_6 : wifsB6 1 5 6 = true := by decide +kernel
set_option maxRecDepth 100000 in
theorem wifs_1_6_3 : wifsB6 1 6 3 = true := by decide +kernel
set_option maxRecDepth 100000 in
theorem wifs_1_7_0 : wifsB6 1 7 0 = true := by decide +kernel
set_option maxRecDepth 100000 in
theorem wifs_1_7_8 : wifsB6 1 7 8 = true := by decide +kernel
set_option maxRecDepth 100000 in
theorem wifs_1_8_5 : wifsB6 1 8 5 = true := by decide +kernel
set_option maxRecDepth 100000 in
theorem wifs_1_9_2 : wifsB6 1 9 2 = true := by decide +kernel
set_option maxRecDepth 100000 in
theorem wifs_1_9_10 : wifsB6 1 9 10 = true := by decide +kernel
set_option maxRecDepth 100000 in
theorem wifs_1_10_7 : wifsB6 1 10 7 = true := by decide +kernel
end Go.Proofs.YteapooonilhaiaaGreatDoor
