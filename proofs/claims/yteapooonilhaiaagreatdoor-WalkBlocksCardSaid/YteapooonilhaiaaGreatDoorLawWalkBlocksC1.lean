/-
  WalkBlocks: cases, run (1).
-/
import Derived.Test.YteapooonilhaiaaGreatDoorWalkBase
namespace Go.Proofs.YteapooonilhaiaaGreatDoor
open Go Vx

noncomputable def wblkB1 (p : Nat) (q : Nat) (r : Nat) : Bool := runM 5 [⟨0, 4294967295, wLo p, wHi p⟩] [.and 1 7 q, .rem 2 (1 + q) r] 3 [.int .i64 (.var 0), .int .i64 (.var 1), .int .i64 (.var 2)]
set_option maxRecDepth 100000 in
theorem wblk_0_1_0 : wblkB1 0 1 0 = true := by decide +kernel
set_option maxRecDepth 100000 in
theorem wblk_0_4_3 : wblkB1 0 4 3 = true := by decide +kernel
set_option maxRecDepth 100000 in
theorem wblk_0_6_4 : wblkB1 0 6 4 = true := by decide +kernel
set_option maxRecDepth 100000 in
theorem wblk_1_1_0 : wblkB1 1 1 0 = true := by decide +kernel
set_option maxRecDepth 100000 in
theorem wblk_1_4_3 : wblkB1 1 4 3 = true := by decide +kernel
set_option maxRecDepth 100000 in
theorem wblk_1_6_4 : wblkB1 1 6 4 = true := by decide +kernel
set_option maxRecDepth 100000 in
theorem wblk_2_1_0 : wblkB1 2 1 0 = true := by decide +kernel
set_option maxRecDepth 100000 in
theorem wblk_2_4_3 : wblkB1 2 4 3 = true := by decide +kernel
set_option maxRecDepth 100000 in
theorem wblk_2_6_4 : wblkB1 2 6 4 = true := by decide +kernel
set_option maxRecDepth 100000 in
theorem wblk_3_1_0 : wblkB1 3 1 0 = true := by decide +kernel
set_option maxRecDepth 100000 in
theorem wblk_3_4_3 : wblkB1 3 4 3 = true := by decide +kernel
set_option maxRecDepth 100000 in
theorem wblk_3_6_4 : wblkB1 3 6 4 = true := by decide +kernel
set_option maxRecDepth 100000 in
theorem wblk_4_1_0 : wblkB1 4 1 0 = true := by decide +kernel
set_option maxRecDepth 100000 in
theorem wblk_4_4_3 : wblkB1 4 4 3 = true := by decide +kernel
set_option maxRecDepth 100000 in
theorem wblk_4_6_4 : wblkB1 4 6 4 = true := by decide +kernel
set_option maxRecDepth 100000 in
theorem wblk_5_1_0 : wblkB1 5 1 0 = true := by decide +kernel
set_option maxRecDepth 100000 in
theorem wblk_5_4_3 : wblkB1 5 4 3 = true := by decide +kernel
set_option maxRecDepth 100000 in
theorem wblk_5_6_4 : wblkB1 5 6 4 = true := by decide +kernel
set_option maxRecDepth 100000 in
theorem wblk_6_1_0 : wblkB1 6 1 0 = true := by decide +kernel
set_option maxRecDepth 100000 in
theorem wblk_6_4_3 : wblkB1 6 4 3 = true := by decide +kernel
set_option maxRecDepth 100000 in
theorem wblk_6_6_4 : wblkB1 6 6 4 = true := by decide +kernel
set_option maxRecDepth 100000 in
theorem wblk_7_1_0 : wblkB1 7 1 0 = true := by decide +kernel
set_option maxRecDepth 100000 in
theorem wblk_7_4_3 : wblkB1 7 4 3 = true := by decide +kernel
set_option maxRecDepth 100000 in
theorem wblk_7_6_4 : wblkB1 7 6 4 = true := by decide +kernel
set_option maxRecDepth 100000 in
theorem wblk_8_1_0 : wblkB1 8 1 0 = true := by decide +kernel
end Go.Proofs.YteapooonilhaiaaGreatDoor
