/-
  WalkBlocks: cases, run (9).
-/
import Derived.Test.YteapooonilhaiaaGreatDoorWalkBase
namespace Go.Proofs.YteapooonilhaiaaGreatDoor
open Go Vx

noncomputable def wblkB9 (p : Nat) (q : Nat) (r : Nat) : Bool := runM 5 [⟨0, 4294967295, wLo p, wHi p⟩] [.and 1 7 q, .rem 2 (1 + q) r] 3 [.int .i64 (.var 0), .int .i64 (.var 1), .int .i64 (.var 2)]
set_option maxRecDepth 100000 in
theorem wblk_0_3_3 : wblkB9 0 3 3 = true := by decide +kernel
set_option maxRecDepth 100000 in
theorem wblk_0_6_0 : wblkB9 0 6 0 = true := by decide +kernel
set_option maxRecDepth 100000 in
theorem wblk_0_7_5 : wblkB9 0 7 5 = true := by decide +kernel
set_option maxRecDepth 100000 in
theorem wblk_1_3_3 : wblkB9 1 3 3 = true := by decide +kernel
set_option maxRecDepth 100000 in
theorem wblk_1_6_0 : wblkB9 1 6 0 = true := by decide +kernel
set_option maxRecDepth 100000 in
theorem wblk_1_7_5 : wblkB9 1 7 5 = true := by decide +kernel
set_option maxRecDepth 100000 in
theorem wblk_2_3_3 : wblkB9 2 3 3 = true := by decide +kernel
set_option maxRecDepth 100000 in
theorem wblk_2_6_0 : wblkB9 2 6 0 = true := by decide +kernel
set_option maxRecDepth 100000 in
theorem wblk_2_7_5 : wblkB9 2 7 5 = true := by decide +kernel
set_option maxRecDepth 100000 in
theorem wblk_3_3_3 : wblkB9 3 3 3 = true := by decide +kernel
set_option maxRecDepth 100000 in
theorem wblk_3_6_0 : wblkB9 3 6 0 = true := by decide +kernel
set_option maxRecDepth 100000 in
theorem wblk_3_7_5 : wblkB9 3 7 5 = true := by decide +kernel
set_option maxRecDepth 100000 in
theorem wblk_4_3_3 : wblkB9 4 3 3 = true := by decide +kernel
set_option maxRecDepth 100000 in
theorem wblk_4_6_0 : wblkB9 4 6 0 = true := by decide +kernel
set_option maxRecDepth 100000 in
theorem wblk_4_7_5 : wblkB9 4 7 5 = true := by decide +kernel
set_option maxRecDepth 100000 in
theorem wblk_5_3_3 : wblkB9 5 3 3 = true := by decide +kernel
set_option maxRecDepth 100000 in
theorem wblk_5_6_0 : wblkB9 5 6 0 = true := by decide +kernel
set_option maxRecDepth 100000 in
theorem wblk_5_7_5 : wblkB9 5 7 5 = true := by decide +kernel
set_option maxRecDepth 100000 in
theorem wblk_6_3_3 : wblkB9 6 3 3 = true := by decide +kernel
set_option maxRecDepth 100000 in
theorem wblk_6_6_0 : wblkB9 6 6 0 = true := by decide +kernel
set_option maxRecDepth 100000 in
theorem wblk_6_7_5 : wblkB9 6 7 5 = true := by decide +kernel
set_option maxRecDepth 100000 in
theorem wblk_7_3_3 : wblkB9 7 3 3 = true := by decide +kernel
set_option maxRecDepth 100000 in
theorem wblk_7_6_0 : wblkB9 7 6 0 = true := by decide +kernel
set_option maxRecDepth 100000 in
theorem wblk_7_7_5 : wblkB9 7 7 5 = true := by decide +kernel
set_option maxRecDepth 100000 in
theorem wblk_8_3_3 : wblkB9 8 3 3 = true := by decide +kernel
set_option maxRecDepth 100000 in
theorem wblk_8_6_0 : wblkB9 8 6 0 = true := by decide +kernel
set_option maxRecDepth 100000 in
theorem wblk_8_7_5 : wblkB9 8 7 5 = true := by decide +kernel
set_option maxRecDepth 100000 in
theorem wblk_9_3_3 : wblkB9 9 3 3 = true := by decide +kernel
set_option maxRecDepth 100000 in
theorem wblk_9_6_0 : wblkB9 9 6 0 = true := by decide +kernel
set_option maxRecDepth 100000 in
theorem wblk_9_7_5 : wblkB9 9 7 5 = true := by decide +kernel
set_option maxRecDepth 100000 in
theorem wblk_10_3_3 : wblkB9 10 3 3 = true := by decide +kernel
set_option maxRecDepth 100000 in
theorem wblk_10_6_0 : wblkB9 10 6 0 = true := by decide +kernel
set_option maxRecDepth 100000 in
theorem wblk_10_7_5 : wblkB9 10 7 5 = true := by decide +kernel
end Go.Proofs.YteapooonilhaiaaGreatDoor
