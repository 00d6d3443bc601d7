/-
  WalkBlocks: cases, run (4).
-/
import Derived.Test.YteapooonilhaiaaGreatDoorWalkBase
namespace Go.Proofs.YteapooonilhaiaaGreatDoor
open Go Vx

noncomputable def wblkB4 (p : Nat) (q : Nat) (r : Nat) : Bool := runM 5 [⟨0, 4294967295, wLo p, wHi p⟩] [.and 1 7 q, .rem 2 (1 + q) r] 3 [.int .i64 (.var 0), .int .i64 (.var 1), .int .i64 (.var 2)]
set_option maxRecDepth 100000 in
theorem wblk_0_2_1 : wblkB4 0 2 1 = true := by decide +kernel
set_option maxRecDepth 100000 in
theorem wblk_0_5_1 : wblkB4 0 5 1 = true := by decide +kernel
set_option maxRecDepth 100000 in
theorem wblk_0_7_0 : wblkB4 0 7 0 = true := by decide +kernel
set_option maxRecDepth 100000 in
theorem wblk_1_2_1 : wblkB4 1 2 1 = true := by decide +kernel
set_option maxRecDepth 100000 in
theorem wblk_1_5_1 : wblkB4 1 5 1 = true := by decide +kernel
set_option maxRecDepth 100000 in
theorem wblk_1_7_0 : wblkB4 1 7 0 = true := by decide +kernel
set_option maxRecDepth 100000 in
theorem wblk_2_2_1 : wblkB4 2 2 1 = true := by decide +kernel
set_option maxRecDepth 100000 in
theorem wblk_2_5_1 : wblkB4 2 5 1 = true := by decide +kernel
set_option maxRecDepth 100000 in
theorem wblk_2_7_0 : wblkB4 2 7 0 = true := by decide +kernel
set_option maxRecDepth 100000 in
theorem wblk_3_2_1 : wblkB4 3 2 1 = true := by decide +kernel
set_option maxRecDepth 100000 in
theorem wblk_3_5_1 : wblkB4 3 5 1 = true := by decide +kernel
set_option maxRecDepth 100000 in
theorem wblk_3_7_0 : wblkB4 3 7 0 = true := by decide +kernel
set_option maxRecDepth 100000 in
theorem wblk_4_2_1 : wblkB4 4 2 1 = true := by decide +kernel
set_option maxRecDepth 100000 in
theorem wblk_4_5_1 : wblkB4 4 5 1 = true := by decide +kernel
set_option maxRecDepth 100000 in
theorem wblk_4_7_0 : wblkB4 4 7 0 = true := by decide +kernel
set_option maxRecDepth 100000 in
theorem wblk_5_2_1 : wblkB4 5 2 1 = true := by decide +kernel
set_option maxRecDepth 100000 in
theorem wblk_5_5_1 : wblkB4 5 5 1 = true := by decide +kernel
set_option maxRecDepth 100000 in
theorem wblk_5_7_0 : wblkB4 5 7 0 = true := by decide +kernel
set_option maxRecDepth 100000 in
theorem wblk_6_2_1 : wblkB4 6 2 1 = true := by decide +kernel
set_option maxRecDepth 100000 in
theorem wblk_6_5_1 : wblkB4 6 5 1 = true := by decide +kernel
set_option maxRecDepth 100000 in
theorem wblk_6_7_0 : wblkB4 6 7 0 = true := by decide +kernel
set_option maxRecDepth 100000 in
theorem wblk_7_2_1 : wblkB4 7 2 1 = true := by decide +kernel
set_option maxRecDepth 100000 in
theorem wblk_7_5_1 : wblkB4 7 5 1 = true := by decide +kernel
set_option maxRecDepth 100000 in
theorem wblk_7_7_0 : wblkB4 7 7 0 = true := by decide +kernel
set_option maxRecDepth 100000 in
theorem wblk_8_2_1 : wblkB4 8 2 1 = true := by decide +kernel
end Go.Proofs.YteapooonilhaiaaGreatDoor
