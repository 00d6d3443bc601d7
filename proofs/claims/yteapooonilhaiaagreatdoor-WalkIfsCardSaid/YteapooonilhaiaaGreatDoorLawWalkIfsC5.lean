/-
  WalkIfs: cases, run (5).
-/
import Derived.Test.YteapooonilhaiaaGreatDoorWalkBase
namespace Go.Proofs.YteapooonilhaiaaGreatDoor
open Go Vx

noncomputable def wifsB5 (p : Nat) (q : Nat) (r : Nat) : Bool := runM 5 [⟨0, 4294967295, zLo p, zHi p⟩, ⟨1, 4294967295, wLo q, wHi q⟩, ⟨2, 4294967295, wLo r, wHi r⟩] [] 4 [.int .i64 (.var 0), .int .i64 (.var 1), .int .i64 (.var 2)]
set_option maxRecDepth 100000 in
theorem wifs_0_0_5 : wifsB5 0 0 5 = true := by decide +kernel
set_option maxRecDepth 100000 in
theorem wifs_0_1_2 : wifsB5 0 1 2 = true := by decide +kernel
set_option maxRecDepth 100000 in
theorem wifs_0_1_10 : wifsB5 0 1 10 = true := by decide +kernel
set_option maxRecDepth 100000 in
theorem wifs_0_2_7 : wifsB5 0 2 7 = true := by decide +kernel
set_option maxRecDepth 100000 in
theorem wifs_0_3_4 : wifsB5 0 3 4 = true := by decide +kernel
set_option maxRecDepth 100000 in
theorem wifs_0_4_1 : wifsB5 0 4 1 = true := by decide +kernel
set_option maxRecDepth 100000 in
theorem wifs_0_4_9 : wifsB5 0 4 9 = true := by decide +kernel
set_option maxRecDepth 100000 in
theorem wifs_0_5_6 : wifsB5 0 5 6 = true := by decide +kernel
set_option maxRecDepth 100000 in
theorem wifs_0_6_3 : wifsB5 0 6 3 = true := by decide +kernel
set_option maxRecDepth 100000 in
theorem wifs_0_7_0 : wifsB5 0 7 0 = true := by decide +kernel
set_option maxRecDepth 100000 in
theorem wifs_0_7_8 : wifsB5 0 7 8 = true := by decide +kernel
set_option maxRecDepth 100000 in
theorem wifs_0_8_5 : wifsB5 0 8 5 = true := by decide +kernel
set_option maxRecDepth 100000 in
theorem wifs_0_9_2 : wifsB5 0 9 2 = true := by decide +kernel
set_option maxRecDepth 100000 in
theorem wifs_0_9_10 : wifsB5 0 9 10 = true := by decide +kernel
set_option maxRecDepth 100000 in
theorem wifs_0_10_7 : wifsB5 0 10 7 = true := by decide +kernel
set_option maxRecDepth 100000 in
theorem wifs_1_0_4 : wifsB5 1 0 4 = true := by decide +kernel
set_option maxRecDepth 100000 in
theorem wifs_1_1_1 : wifsB5 1 1 1 = true := by decide +kernel
set_option maxRecDepth 100000 in
theorem wifs_1_1_9 : wifsB5 1 1 9 = true := by decide +kernel
set_option maxRecDepth 100000 in
theorem wifs_1_2_6 : wifsB5 1 2 6 = true := by decide +kernel
set_option maxRecDepth 100000 in
theorem wifs_1_3_3 : wifsB5 1 3 3 = true := by decide +kernel
set_option maxRecDepth 100000 in
theorem wifs_1_4_0 : wifsB5 1 4 0 = true := by decide +kernel
set_option maxRecDepth 100000 in
theorem wifs_1_4_8 : wifsB5 1 4 8 = true := by decide +kernel
set_option maxRecDepth 100000 in
theorem wifs_1_5_5 : wifsB5 1 5 5 = true := by decide +kernel
set_option maxRecDepth 100000 in
theorem wifs_1_6_2 : wifsB5 1 6 2 = true := by decide +kernel
set_option maxRecDepth 100000 in
theorem wifs_1_6_10 : wifsB5 1 6 10 = true := by decide +kernel
set_option maxRecDepth 100000 in
theorem wifs_1_7_7 : wifsB5 1 7 7 = true := by decide +kernel
set_option maxRecDepth 100000 in
theorem wifs_1_8_4 : wifsB5 1 8 4 = true := by decide +kernel
set_option maxRecDepth 100000 in
theorem wifs_1_9_1 : wifsB5 1 9 1 = true := by decide +kernel
set_option maxRecDepth 100000 in
theorem wifs_1_9_9 : wifsB5 1 9 9 = true := by decide +kernel
set_option maxRecDepth 100000 in
theorem wifs_1_10_6 : wifsB5 1 10 6 = true := by decide +kernel
end Go.Proofs.YteapooonilhaiaaGreatDoor
