/-
  WalkBlocks: cases, run (0).
-/
import Derived.Test.YteapooonilhaiaaGreatDoorWalkBase
namespace Go.Proofs.YteapooonilhaiaaGreatDoor
open Go Vx

noncomputable def wblkB0 (p : Nat) (q : Nat) (r : Nat) : Bool := runM 5 [⟨0, 4294967295, wLo p, wHi p⟩] [.and 1 7 q, .rem 2 (1 + q) r] 3 [.int .i64 (.var 0), .int .i64 (.var 1), .int .i64 (.var 2)]
set_option maxRecDepth 100000 in
theorem wblk_0_0_0 : wblkB0 0 0 0 = true := by decide +kernel
set_option maxRecDepth 100000 in
theorem wblk_0_4_2 : wblkB0 0 4 2 = true := by decide +kernel
set_option maxRecDepth 100000 in
theorem wblk_0_6_3 : wblkB0 0 6 3 = true := by decide +kernel
set_option maxRecDepth 100000 in
theorem wblk_1_0_0 : wblkB0 1 0 0 = true := by decide +kernel
set_option maxRecDepth 100000 in
theorem wblk_1_4_2 : wblkB0 1 4 2 = true := by decide +kernel
set_option maxRecDepth 100000 in
theorem wblk_1_6_3 : wblkB0 1 6 3 = true := by decide +kernel
set_option maxRecDepth 100000 in
theorem wblk_2_0_0 : wblkB0 2 0 0 = true := by decide +kernel
set_option maxRecDepth 100000 in
theorem wblk_2_4_2 : wblkB0 2 4 2 = true := by decide +kernel
set_option maxRecDepth 100000 in
theorem wblk_2_6_3 : wblkB0 2 6 3 = true := by decide +kernel
set_option maxRecDepth 100000 in
theorem wblk_3_0_0 : wblkB0 3 0 0 = true := by decide +kernel
set_option maxRecDepth 100000 in
theorem wblk_3_4_2 : wblkB0 3 4 2 = true := by decide +kernel
set_option maxRecDepth 100000 in
theorem wblk_3_6_3 : wblkB0 3 6 3 = true := by decide +kernel
set_option maxRecDepth 100000 in
theorem wblk_4_0_0 : wblkB0 4 0 0 = true := by decide +kernel
set_option maxRecDepth 100000 in
theorem wblk_4_4_2 : wblkB0 4 4 2 = true := by decide +kernel
set_option maxRecDepth 100000 in
theorem wblk_4_6_3 : wblkB0 4 6 3 = true := by decide +kernel
set_option maxRecDepth 100000 in
theorem wblk_5_0_0 : wblkB0 5 0 0 = true := by decide +kernel
set_option maxRecDepth 100000 in
theorem wblk_5_4_2 : wblkB0 5 4 2 = true := by decide +kernel
set_option maxRecDepth 100000 in
theorem wblk_5_6_3 : wblkB0 5 6 3 = true := by decide +kernel
set_option maxRecDepth 100000 in
theorem wblk_6_0_0 : wblkB0 6 0 0 = true := by decide +kernel
set_option maxRecDepth 100000 in
theorem wblk_6_4_2 : wblkB0 6 4 2 = true := by decide +kernel
set_option maxRecDepth 100000 in
theorem wblk_6_6_3 : wblkB0 6 6 3 = true := by decide +kernel
set_option maxRecDepth 100000 in
theorem wblk_7_0_0 : wblkB0 7 0 0 = true := by decide +kernel
set_option maxRecDepth 100000 in
theorem wblk_7_4_2 : wblkB0 7 4 2 = true := by decide +kernel
set_option maxRecDepth 100000 in
theorem wblk_7_6_3 : wblkB0 7 6 3 = true := by decide +kernel
set_option maxRecDepth 100000 in
theorem wblk_8_0_0 : wblkB0 8 0 0 = true := by decide +kernel
end Go.Proofs.YteapooonilhaiaaGreatDoor
