/-
  WalkBlocks: cases, run (11).
-/
import Derived.Test.YteapooonilhaiaaGreatDoorWalkBase
namespace Go.Proofs.YteapooonilhaiaaGreatDoor
open Go Vx

noncomputable def wblkB11 (p : Nat) (q : Nat) (r : Nat) : Bool := runM 5 [⟨0, 4294967295, wLo p, wHi p⟩] [.and 1 7 q, .rem 2 (1 + q) r] 3 [.int .i64 (.var 0), .int .i64 (.var 1), .int .i64 (.var 2)]
set_option maxRecDepth 100000 in
theorem wblk_0_4_1 : wblkB11 0 4 1 = true := by decide +kernel
set_option maxRecDepth 100000 in
theorem wblk_0_6_2 : wblkB11 0 6 2 = true := by decide +kernel
set_option maxRecDepth 100000 in
theorem wblk_0_7_7 : wblkB11 0 7 7 = true := by decide +kernel
set_option maxRecDepth 100000 in
theorem wblk_1_4_1 : wblkB11 1 4 1 = true := by decide +kernel
set_option maxRecDepth 100000 in
theorem wblk_1_6_2 : wblkB11 1 6 2 = true := by decide +kernel
set_option maxRecDepth 100000 in
theorem wblk_1_7_7 : wblkB11 1 7 7 = true := by decide +kernel
set_option maxRecDepth 100000 in
theorem wblk_2_4_1 : wblkB11 2 4 1 = true := by decide +kernel
set_option maxRecDepth 100000 in
theorem wblk_2_6_2 : wblkB11 2 6 2 = true := by decide +kernel
set_option maxRecDepth 100000 in
theorem wblk_2_7_7 : wblkB11 2 7 7 = true := by decide +kernel
set_option maxRecDepth 100000 in
theorem wblk_3_4_1 : wblkB11 3 4 1 = true := by decide +kernel
set_option maxRecDepth 100000 in
theorem wblk_3_6_2 : wblkB11 3 6 2 = true := by decide +kernel
set_option maxRecDepth 100000 in
theorem wblk_3_7_7 : wblkB11 3 7 7 = true := by decide +kernel
set_option maxRecDepth 100000 in
theorem wblk_4_4_1 : wblkB11 4 4 1 = true := by decide +kernel
set_option maxRecDepth 100000 in
theorem wblk_4_6_2 : wblkB11 4 6 2 = true := by decide +kernel
set_option maxRecDepth 100000 in
theorem wblk_4_7_7 : wblkB11 4 7 7 = true := by decide +kernel
set_option maxRecDepth 100000 in
theorem wblk_5_4_1 : wblkB11 5 4 1 = true := by decide +kernel
set_option maxRecDepth 100000 in
theorem wblk_5_6_2 : wblkB11 5 6 2 = true := by decide +kernel
set_option maxRecDepth 100000 in
theorem wblk_5_7_7 : wblkB11 5 7 7 = true := by decide +kernel
set_option maxRecDepth 100000 in
theorem wblk_6_4_1 : wblkB11 6 4 1 = true := by decide +kernel
set_option maxRecDepth 100000 in
theorem wblk_6_6_2 : wblkB11 6 6 2 = true := by decide +kernel
set_option maxRecDepth 100000 in
theorem wblk_6_7_7 : wblkB11 6 7 7 = true := by decide +kernel
set_option maxRecDepth 100000 in
theorem wblk_7_4_1 : wblkB11 7 4 1 = true := by decide +kernel
set_option maxRecDepth 100000 in
theorem wblk_7_6_2 : wblkB11 7 6 2 = true := by decide +kernel
set_option maxRecDepth 100000 in
theorem wblk_7_7_7 : wblkB11 7 7 7 = true := by decide +kernel
set_option maxRecDepth 100000 in
theorem wblk_8_4_1 : wblkB11 8 4 1 = true := by decide +kernel
set_option maxRecDepth 100000 in
theorem wblk_8_6_2 : wblkB11 8 6 2 = true := by decide +kernel
set_option maxRecDepth 100000 in
theorem wblk_8_7_7 : wblkB11 8 7 7 = true := by decide +kernel
set_option maxRecDepth 100000 in
theorem wblk_9_4_1 : wblkB11 9 4 1 = true := by decide +kernel
set_option maxRecDepth 100000 in
theorem wblk_9_6_2 : wblkB11 9 6 2 = true := by decide +kernel
set_option maxRecDepth 100000 in
theorem wblk_9_7_7 : wblkB11 9 7 7 = true := by decide +kernel
set_option maxRecDepth 100000 in
theorem wblk_10_4_1 : wblkB11 10 4 1 = true := by decide +kernel
set_option maxRecDepth 100000 in
theorem wblk_10_6_2 : wblkB11 10 6 2 = true := by decide +kernel
set_option maxRecDepth 100000 in
theorem wblk_10_7_7 : wblkB11 10 7 7 = true := by decide +kernel
end Go.Proofs.YteapooonilhaiaaGreatDoor
