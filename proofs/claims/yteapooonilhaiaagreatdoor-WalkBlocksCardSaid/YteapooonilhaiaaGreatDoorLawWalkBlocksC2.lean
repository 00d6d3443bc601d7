/-
  WalkBlocks: cases, run (2).
-/
import Derived.Test.YteapooonilhaiaaGreatDoorWalkBase
namespace Go.Proofs.YteapooonilhaiaaGreatDoor
open Go Vx

noncomputable def wblkB2 (p : Nat) (q : Nat) (r : Nat) : Bool := runM 5 [⟨0, 4294967295, wLo p, wHi p⟩] [.and 1 7 q, .rem 2 (1 + q) r] 3 [.int .i64 (.var 0), .int .i64 (.var 1), .int .i64 (.var 2)]
set_option maxRecDepth 100000 in
theorem wblk_0_1_1 : wblkB2 0 1 1 = true := by decide +kernel
set_option maxRecDepth 100000 in
theorem wblk_0_4_4 : wblkB2 0 4 4 = true := by decide +kernel
set_option maxRecDepth 100000 in
theorem wblk_0_6_5 : wblkB2 0 6 5 = true := by decide +kernel
set_option maxRecDepth 100000 in
theorem wblk_1_1_1 : wblkB2 1 1 1 = true := by decide +kernel
set_option maxRecDepth 100000 in
theorem wblk_1_4_4 : wblkB2 1 4 4 = true := by decide +kernel
set_option maxRecDepth 100000 in
theorem wblk_1_6_5 : wblkB2 1 6 5 = true := by decide +kernel
set_option maxRecDepth 100000 in
theorem wblk_2_1_1 : wblkB2 2 1 1 = true := by decide +kernel
set_option maxRecDepth 100000 in
theorem wblk_2_4_4 : wblkB2 2 4 4 = true := by decide +kernel
set_option maxRecDepth 100000 in
theorem wblk_2_6_5 : wblkB2 2 6 5 = true := by decide +kernel
set_option maxRecDepth 100000 in
theorem wblk_3_1_1 : wblkB2 3 1 1 = true := by decide +kernel
set_option maxRecDepth 100000 in
theorem wblk_3_4_4 : wblkB2 3 4 4 = true := by decide +kernel
set_option maxRecDepth 100000 in
theorem wblk_3_6_5 : wblkB2 3 6 5 = true := by decide +kernel
set_option maxRecDepth 100000 in
theorem wblk_4_1_1 : wblkB2 4 1 1 = true := by decide +kernel
set_option maxRecDepth 100000 in
theorem wblk_4_4_4 : wblkB2 4 4 4 = true := by decide +kernel
set_option maxRecDepth 100000 in
theorem wblk_4_6_5 : wblkB2 4 6 5 = true := by decide +kernel
set_option maxRecDepth 100000 in
theorem wblk_5_1_1 : wblkB2 5 1 1 = true := by decide +kernel
set_option maxRecDepth 100000 in
theorem wblk_5_4_4 : wblkB2 5 4 4 = true := by decide +kernel
set_option maxRecDepth 100000 in
theorem wblk_5_6_5 : wblkB2 5 6 5 = true := by decide +kernel
set_option maxRecDepth 100000 in
theorem wblk_6_1_1 : wblkB2 6 1 1 = true := by decide +kernel
set_option maxRecDepth 100000 in
theorem wblk_6_4_4 : wblkB2 6 4 4 = true := by decide +kernel
set_option maxRecDepth 100000 in
theorem wblk_6_6_5 : wblkB2 6 6 5 = true := by decide +kernel
set_option maxRecDepth 100000 in
theorem wblk_7_1_1 : wblkB2 7 1 1 = true := by decide +kernel
set_option maxRecDepth 100000 in
theorem wblk_7_4_4 : wblkB2 7 4 4 = true := by decide +kernel
set_option maxRecDepth 100000 in
theorem wblk_7_6_5 : wblkB2 7 6 5 = true := by decide +kernel
set_option maxRecDepth 100000 in
theorem wblk_8_1_1 : wblkB2 8 1 1 = true := by decide +kernel
end Go.Proofs.YteapooonilhaiaaGreatDoor
