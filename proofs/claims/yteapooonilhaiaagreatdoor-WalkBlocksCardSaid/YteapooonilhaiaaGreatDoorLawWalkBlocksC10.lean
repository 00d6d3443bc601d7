/-
  WalkBlocks: cases, run (10).
-/
import Derived.Test.YteapooonilhaiaaGreatDoorWalkBase
namespace Go.Proofs.YteapooonilhaiaaGreatDoor
open Go Vx

noncomputable def wblkB10 (p : Nat) (q : Nat) (r : Nat) : Bool := runM 5 [⟨0, 4294967295, wLo p, wHi p⟩] [.and 1 7 q, .rem 2 (1 + q) r] 3 [.int .i64 (.var 0), .int .i64 (.var 1), .int .i64 (.var 2)]
set_option maxRecDepth 100000 in
theorem wblk_0_4_0 : wblkB10 0 4 0 = true := by decide +kernel
set_option maxRecDepth 100000 in
theorem wblk_0_6_1 : wblkB10 0 6 1 = true := by decide +kernel
set_option maxRecDepth 100000 in
theorem wblk_0_7_6 : wblkB10 0 7 6 = true := by decide +kernel
set_option maxRecDepth 100000 in
theorem wblk_1_4_0 : wblkB10 1 4 0 = true := by decide +kernel
set_option maxRecDepth 100000 in
theorem wblk_1_6_1 : wblkB10 1 6 1 = true := by decide +kernel
set_option maxRecDepth 100000 in
theorem wblk_1_7_6 : wblkB10 1 7 6 = true := by decide +kernel
set_option maxRecDepth 100000 in
theorem wblk_2_4_0 : wblkB10 2 4 0 = true := by decide +kernel
set_option maxRecDepth 100000 in
theorem wblk_2_6_1 : wblkB10 2 6 1 = true := by decide +kernel
set_option maxRecDepth 100000 in
theorem wblk_2_7_6 : wblkB10 2 7 6 = true := by decide +kernel
set_option maxRecDepth 100000 in
theorem wblk_3_4_0 : wblkB10 3 4 0 = true := by decide +kernel
set_option maxRecDepth 100000 in
theorem wblk_3_6_1 : wblkB10 3 6 1 = true := by decide +kernel
set_option maxRecDepth 100000 in
theorem wblk_3_7_6 : wblkB10 3 7 6 = true := by decide +kernel
set_option maxRecDepth 100000 in
theorem wblk_4_4_0 : wblkB10 4 4 0 = true := by decide +kernel
set_option maxRecDepth 100000 in
theorem wblk_4_6_1 : wblkB10 4 6 1 = true := by decide +kernel
set_option maxRecDepth 100000 in
theorem wblk_4_7_6 : wblkB10 4 7 6 = true := by decide +kernel
set_option maxRecDepth 100000 in
theorem wblk_5_4_0 : wblkB10 5 4 0 = true := by decide +kernel
set_option maxRecDepth 100000 in
theorem wblk_5_6_1 : wblkB10 5 6 1 = true := by decide +kernel
set_option maxRecDepth 100000 in
theorem wblk_5_7_6 : wblkB10 5 7 6 = true := by decide +kernel
set_option maxRecDepth 100000 in
theorem wblk_6_4_0 : wblkB10 6 4 0 = true := by decide +kernel
set_option maxRecDepth 100000 in
theorem wblk_6_6_1 : wblkB10 6 6 1 = true := by decide +kernel
set_option maxRecDepth 100000 in
theorem wblk_6_7_6 : wblkB10 6 7 6 = true := by decide +kernel
set_option maxRecDepth 100000 in
theorem wblk_7_4_0 : wblkB10 7 4 0 = true := by decide +kernel
set_option maxRecDepth 100000 in
theorem wblk_7_6_1 : wblkB10 7 6 1 = true := by decide +kernel
set_option maxRecDepth 100000 in
theorem wblk_7_7_6 : wblkB10 7 7 6 = true := by decide +kernel
set_option maxRecDepth 100000 in
theorem wblk_8_4_0 : wblkB10 8 4 0 = true := by decide +kernel
set_option maxRecDepth 100000 in
theorem wblk_8_6_1 : wblkB10 8 6 1 = true := by decide +kernel
set_option maxRecDepth 100000 in
theorem wblk_8_7_6 : wblkB10 8 7 6 = true := by decide +kernel
set_option maxRecDepth 100000 in
theorem wblk_9_4_0 : wblkB10 9 4 0 = true := by decide +kernel
set_option maxRecDepth 100000 in
theorem wblk_9_6_1 : wblkB10 9 6 1 = true := by decide +kernel
set_option maxRecDepth 100000 in
theorem wblk_9_7_6 : wblkB10 9 7 6 = true := by decide +kernel
set_option maxRecDepth 100000 in
theorem wblk_10_4_0 : wblkB10 10 4 0 = true := by decide +kernel
set_option maxRecDepth 100000 in
theorem wblk_10_6_1 : wblkB10 10 6 1 = true := by decide +kernel
set_option maxRecDepth 100000 in
theorem wblk_10_7_6 : wblkB10 10 7 6 = true := by decide +kernel
end Go.Proofs.YteapooonilhaiaaGreatDoor
