/-
  WalkBlocks: cases, run (14).
-/
import Derived.Test.YteapooonilhaiaaGreatDoorWalkBase
namespace Go.Proofs.YteapooonilhaiaaGreatDoor
open Go Vx

noncomputable def wblkB14 (p : Nat) (q : Nat) (r : Nat) : Bool := runM 5 [⟨0, 4294967295, wLo p, wHi p⟩] [.and 1 7 q, .rem 2 (1 + q) r] 3 [.int .i64 (.var 0), .int .i64 (.var 1), .int .i64 (.var 2)]
set_option maxRecDepth 100000 in
theorem wblk_9_0_0 : wblkB14 9 0 0 = true := by decide +kernel
set_option maxRecDepth 100000 in
theorem wblk_10_0_0 : wblkB14 10 0 0 = true := by decide +kernel
set_option maxRecDepth 100000 in
theorem wblk_8_4_3 : wblkB14 8 4 3 = true := by decide +kernel
set_option maxRecDepth 100000 in
theorem wblk_9_4_3 : wblkB14 9 4 3 = true := by decide +kernel
set_option maxRecDepth 100000 in
theorem wblk_10_4_3 : wblkB14 10 4 3 = true := by decide +kernel
set_option maxRecDepth 100000 in
theorem wblk_8_6_5 : wblkB14 8 6 5 = true := by decide +kernel
set_option maxRecDepth 100000 in
theorem wblk_9_6_5 : wblkB14 9 6 5 = true := by decide +kernel
set_option maxRecDepth 100000 in
theorem wblk_10_6_5 : wblkB14 10 6 5 = true := by decide +kernel
set_option maxRecDepth 100000 in
theorem wblk_9_2_0 : wblkB14 9 2 0 = true := by decide +kernel
set_option maxRecDepth 100000 in
theorem wblk_10_2_0 : wblkB14 10 2 0 = true := by decide +kernel
set_option maxRecDepth 100000 in
theorem wblk_8_5_1 : wblkB14 8 5 1 = true := by decide +kernel
set_option maxRecDepth 100000 in
theorem wblk_9_5_1 : wblkB14 9 5 1 = true := by decide +kernel
set_option maxRecDepth 100000 in
theorem wblk_10_5_1 : wblkB14 10 5 1 = true := by decide +kernel
set_option maxRecDepth 100000 in
theorem wblk_8_7_1 : wblkB14 8 7 1 = true := by decide +kernel
set_option maxRecDepth 100000 in
theorem wblk_9_7_1 : wblkB14 9 7 1 = true := by decide +kernel
set_option maxRecDepth 100000 in
theorem wblk_10_7_1 : wblkB14 10 7 1 = true := by decide +kernel
set_option maxRecDepth 100000 in
theorem wblk_9_3_0 : wblkB14 9 3 0 = true := by decide +kernel
set_option maxRecDepth 100000 in
theorem wblk_10_3_0 : wblkB14 10 3 0 = true := by decide +kernel
set_option maxRecDepth 100000 in
theorem wblk_8_5_4 : wblkB14 8 5 4 = true := by decide +kernel
set_option maxRecDepth 100000 in
theorem wblk_9_5_4 : wblkB14 9 5 4 = true := by decide +kernel
set_option maxRecDepth 100000 in
theorem wblk_10_5_4 : wblkB14 10 5 4 = true := by decide +kernel
set_option maxRecDepth 100000 in
theorem wblk_8_7_4 : wblkB14 8 7 4 = true := by decide +kernel
set_option maxRecDepth 100000 in
theorem wblk_9_7_4 : wblkB14 9 7 4 = true := by decide +kernel
set_option maxRecDepth 100000 in
theorem wblk_10_7_4 : wblkB14 10 7 4 = true := by decide +kernel
end Go.Proofs.YteapooonilhaiaaGreatDoor
