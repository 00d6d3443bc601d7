/-
  WalkBlocks: cases, run (7).
-/
import Derived.Test.YteapooonilhaiaaGreatDoorWalkBase
namespace Go.Proofs.YteapooonilhaiaaGreatDoor
open Go Vx

noncomputable def wblkB7 (p : Nat) (q : Nat) (r : Nat) : Bool := runM 5 [⟨0, 4294967295, wLo p, wHi p⟩] [.and 1 7 q, .rem 2 (1 + q) r] 3 [.int .i64 (.var 0), .int .i64 (.var 1), .int .i64 (.var 2)]
set_option maxRecDepth 100000 in
theorem wblk_0_3_1 : wblkB7 0 3 1 = true := by decide +kernel
set_option maxRecDepth 100000 in
theorem wblk_0_5_4 : wblkB7 0 5 4 = true := by decide +kernel
set_option maxRecDepth 100000 in
theorem wblk_0_7_3 : wblkB7 0 7 3 = true := by decide +kernel
set_option maxRecDepth 100000 in
theorem wblk_1_3_1 : wblkB7 1 3 1 = true := by decide +kernel
set_option maxRecDepth 100000 in
theorem wblk_1_5_4 : wblkB7 1 5 4 = true := by decide +kernel
set_option maxRecDepth 100000 in
theorem wblk_1_7_3 : wblkB7 1 7 3 = true := by decide +kernel
set_option maxRecDepth 100000 in
theorem wblk_2_3_1 : wblkB7 2 3 1 = true := by decide +kernel
set_option maxRecDepth 100000 in
theorem wblk_2_5_4 : wblkB7 2 5 4 = true := by decide +kernel
set_option maxRecDepth 100000 in
theorem wblk_2_7_3 : wblkB7 2 7 3 = true := by decide +kernel
set_option maxRecDepth 100000 in
theorem wblk_3_3_1 : wblkB7 3 3 1 = true := by decide +kernel
set_option maxRecDepth 100000 in
theorem wblk_3_5_4 : wblkB7 3 5 4 = true := by decide +kernel
set_option maxRecDepth 100000 in
theorem wblk_3_7_3 : wblkB7 3 7 3 = true := by decide +kernel
set_option maxRecDepth 100000 in
theorem wblk_4_3_1 : wblkB7 4 3 1 = true := by decide +kernel
set_option maxRecDepth 100000 in
theorem wblk_4_5_4 : wblkB7 4 5 4 = true := by decide +kernel
set_option maxRecDepth 100000 in
theorem wblk_4_7_3 : wblkB7 4 7 3 = true := by decide +kernel
set_option maxRecDepth 100000 in
theorem wblk_5_3_1 : wblkB7 5 3 1 = true := by decide +kernel
set_option maxRecDepth 100000 in
theorem wblk_5_5_4 : wblkB7 5 5 4 = true := by decide +kernel
set_option maxRecDepth 100000 in
theorem wblk_5_7_3 : wblkB7 5 7 3 = true := by decide +kernel
set_option maxRecDepth 100000 in
theorem wblk_6_3_1 : wblkB7 6 3 1 = true := by decide +kernel
set_option maxRecDepth 100000 in
theorem wblk_6_5_4 : wblkB7 6 5 4 = true := by decide +kernel
set_option maxRecDepth 100000 in
theorem wblk_6_7_3 : wblkB7 6 7 3 = true := by decide +kernel
set_option maxRecDepth 100000 in
theorem wblk_7_3_1 : wblkB7 7 3 1 = true := by decide +kernel
set_option maxRecDepth 100000 in
theorem wblk_7_5_4 : wblkB7 7 5 4 = true := by decide +kernel
set_option maxRecDepth 100000 in
theorem wblk_7_7_3 : wblkB7 7 7 3 = true := by decide +kernel
set_option maxRecDepth 100000 in
theorem wblk_8_3_1 : wblkB7 8 3 1 = true := by decide +kernel
end Go.Proofs.YteapooonilhaiaaGreatDoor
