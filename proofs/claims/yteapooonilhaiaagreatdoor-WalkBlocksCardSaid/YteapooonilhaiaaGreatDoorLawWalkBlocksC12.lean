/-
  WalkBlocks: cases, run (12).
-/
import Derived.Test.YteapooonilhaiaaGreatDoorWalkBase
namespace Go.Proofs.YteapooonilhaiaaGreatDoor
open Go Vx

noncomputable def wblkB12 (p : Nat) (q : Nat) (r : Nat) : Bool := runM 5 [⟨0, 4294967295, wLo p, wHi p⟩] [.and 1 7 q, .rem 2 (1 + q) r] 3 [.int .i64 (.var 0), .int .i64 (.var 1), .int .i64 (.var 2)]
set_option maxRecDepth 100000 in
theorem wblk_8_4_2 : wblkB12 8 4 2 = true := by decide +kernel
set_option maxRecDepth 100000 in
theorem wblk_9_4_2 : wblkB12 9 4 2 = true := by decide +kernel
set_option maxRecDepth 100000 in
theorem wblk_10_4_2 : wblkB12 10 4 2 = true := by decide +kernel
set_option maxRecDepth 100000 in
theorem wblk_8_6_4 : wblkB12 8 6 4 = true := by decide +kernel
set_option maxRecDepth 100000 in
theorem wblk_9_6_4 : wblkB12 9 6 4 = true := by decide +kernel
set_option maxRecDepth 100000 in
theorem wblk_10_6_4 : wblkB12 10 6 4 = true := by decide +kernel
set_option maxRecDepth 100000 in
theorem wblk_9_1_1 : wblkB12 9 1 1 = true := by decide +kernel
set_option maxRecDepth 100000 in
theorem wblk_10_1_1 : wblkB12 10 1 1 = true := by decide +kernel
set_option maxRecDepth 100000 in
theorem wblk_8_5_0 : wblkB12 8 5 0 = true := by decide +kernel
set_option maxRecDepth 100000 in
theorem wblk_9_5_0 : wblkB12 9 5 0 = true := by decide +kernel
set_option maxRecDepth 100000 in
theorem wblk_10_5_0 : wblkB12 10 5 0 = true := by decide +kernel
set_option maxRecDepth 100000 in
theorem wblk_8_7_0 : wblkB12 8 7 0 = true := by decide +kernel
set_option maxRecDepth 100000 in
theorem wblk_9_7_0 : wblkB12 9 7 0 = true := by decide +kernel
set_option maxRecDepth 100000 in
theorem wblk_10_7_0 : wblkB12 10 7 0 = true := by decide +kernel
set_option maxRecDepth 100000 in
theorem wblk_9_2_2 : wblkB12 9 2 2 = true := by decide +kernel
set_option maxRecDepth 100000 in
theorem wblk_10_2_2 : wblkB12 10 2 2 = true := by decide +kernel
set_option maxRecDepth 100000 in
theorem wblk_8_5_3 : wblkB12 8 5 3 = true := by decide +kernel
set_option maxRecDepth 100000 in
theorem wblk_9_5_3 : wblkB12 9 5 3 = true := by decide +kernel
set_option maxRecDepth 100000 in
theorem wblk_10_5_3 : wblkB12 10 5 3 = true := by decide +kernel
set_option maxRecDepth 100000 in
theorem wblk_8_7_3 : wblkB12 8 7 3 = true := by decide +kernel
set_option maxRecDepth 100000 in
theorem wblk_9_7_3 : wblkB12 9 7 3 = true := by decide +kernel
set_option maxRecDepth 100000 in
theorem wblk_10_7_3 : wblkB12 10 7 3 = true := by decide +kernel
set_option maxRecDepth 100000 in
theorem wblk_9_3_2 : wblkB12 9 3 2 = true := by decide +kernel
set_option maxRecDepth 100000 in
theorem wblk_10_3_2 : wblkB12 10 3 2 = true := by decide +kernel
end Go.Proofs.YteapooonilhaiaaGreatDoor
