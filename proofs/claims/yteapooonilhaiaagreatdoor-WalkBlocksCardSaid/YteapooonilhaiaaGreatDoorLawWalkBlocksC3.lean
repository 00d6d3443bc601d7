/-
  WalkBlocks: cases, run (3).
-/
import Derived.Test.YteapooonilhaiaaGreatDoorWalkBase
namespace Go.Proofs.YteapooonilhaiaaGreatDoor
open Go Vx

noncomputable def wblkB3 (p : Nat) (q : Nat) (r : Nat) : Bool := runM 5 [⟨0, 4294967295, wLo p, wHi p⟩] [.and 1 7 q, .rem 2 (1 + q) r] 3 [.int .i64 (.var 0), .int .i64 (.var 1), .int .i64 (.var 2)]
set_option maxRecDepth 100000 in
theorem wblk_0_2_0 : wblkB3 0 2 0 = true := by decide +kernel
set_option maxRecDepth 100000 in
theorem wblk_0_5_0 : wblkB3 0 5 0 = true := by decide +kernel
set_option maxRecDepth 100000 in
theorem wblk_0_6_6 : wblkB3 0 6 6 = true := by decide +kernel
set_option maxRecDepth 100000 in
theorem wblk_1_2_0 : wblkB3 1 2 0 = true := by decide +kernel
set_option maxRecDepth 100000 in
theorem wblk_1_5_0 : wblkB3 1 5 0 = true := by decide +kernel
set_option maxRecDepth 100000 in
theorem wblk_1_6_6 : wblkB3 1 6 6 = true := by decide +kernel
set_option maxRecDepth 100000 in
theorem wblk_2_2_0 : wblkB3 2 2 0 = true := by decide +kernel
set_option maxRecDepth 100000 in
theorem wblk_2_5_0 : wblkB3 2 5 0 = true := by decide +kernel
set_option maxRecDepth 100000 in
theorem wblk_2_6_6 : wblkB3 2 6 6 = true := by decide +kernel
set_option maxRecDepth 100000 in
theorem wblk_3_2_0 : wblkB3 3 2 0 = true := by decide +kernel
set_option maxRecDepth 100000 in
theorem wblk_3_5_0 : wblkB3 3 5 0 = true := by decide +kernel
set_option maxRecDepth 100000 in
theorem wblk_3_6_6 : wblkB3 3 6 6 = true := by decide +kernel
set_option maxRecDepth 100000 in
theorem wblk_4_2_0 : wblkB3 4 2 0 = true := by decide +kernel
set_option maxRecDepth 100000 in
theorem wblk_4_5_0 : wblkB3 4 5 0 = true := by decide +kernel
set_option maxRecDepth 100000 in
theorem wblk_4_6_6 : wblkB3 4 6 6 = true := by decide +kernel
set_option maxRecDepth 100000 in
theorem wblk_5_2_0 : wblkB3 5 2 0 = true := by decide +kernel
set_option maxRecDepth 100000 in
theorem wblk_5_5_0 : wblkB3 5 5 0 = true := by decide +kernel
set_option maxRecDepth 100000 in
theorem wblk_5_6_6 : wblkB3 5 6 6 = true := by decide +kernel
set_option maxRecDepth 100000 in
theorem wblk_6_2_0 : wblkB3 6 2 0 = true := by decide +kernel
set_option maxRecDepth 100000 in
theorem wblk_6_5_0 : wblkB3 6 5 0 = true := by decide +kernel
set_option maxRecDepth 100000 in
theorem wblk_6_6_6 : wblkB3 6 6 6 = true := by decide +kernel
set_option maxRecDepth 100000 in
theorem wblk_7_2_0 : wblkB3 7 2 0 = true := by decide +kernel
set_option maxRecDepth 100000 in
theorem wblk_7_5_0 : wblkB3 7 5 0 = true := by decide +kernel
set_option maxRecDepth 100000 in
theorem wblk_7_6_6 : wblkB3 7 6 6 = true := by decide +kernel
set_option maxRecDepth 100000 in
theorem wblk_8_2_0 : wblkB3 8 2 0 = true := by decide +kernel
end Go.Proofs.YteapooonilhaiaaGreatDoor
