/-
  WalkBlocks: cases, run (8).
-/
import Derived.Test.YteapooonilhaiaaGreatDoorWalkBase
namespace Go.Proofs.YteapooonilhaiaaGreatDoor
open Go Vx

noncomputable def wblkB8 (p : Nat) (q : Nat) (r : Nat) : Bool := runM 5 [⟨0, 4294967295, wLo p, wHi p⟩] [.and 1 7 q, .rem 2 (1 + q) r] 3 [.int .i64 (.var 0), .int .i64 (.var 1), .int .i64 (.var 2)]
set_option maxRecDepth 100000 in
theorem wblk_0_3_2 : wblkB8 0 3 2 = true := by decide +kernel
set_option maxRecDepth 100000 in
theorem wblk_0_5_5 : wblkB8 0 5 5 = true := by decide +kernel
set_option maxRecDepth 100000 in
theorem wblk_0_7_4 : wblkB8 0 7 4 = true := by decide +kernel
set_option maxRecDepth 100000 in
theorem wblk_1_3_2 : wblkB8 1 3 2 = true := by decide +kernel
set_option maxRecDepth 100000 in
theorem wblk_1_5_5 : wblkB8 1 5 5 = true := by decide +kernel
set_option maxRecDepth 100000 in
theorem wblk_1_7_4 : wblkB8 1 7 4 = true := by decide +kernel
set_option maxRecDepth 100000 in
theorem wblk_2_3_2 : wblkB8 2 3 2 = true := by decide +kernel
set_option maxRecDepth 100000 in
theorem wblk_2_5_5 : wblkB8 2 5 5 = true := by decide +kernel
set_option maxRecDepth 100000 in
theorem wblk_2_7_4 : wblkB8 2 7 4 = true := by decide +kernel
set_option maxRecDepth 100000 in
theorem wblk_3_3_2 : wblkB8 3 3 2 = true := by decide +kernel
set_option maxRecDepth 100000 in
theorem wblk_3_5_5 : wblkB8 3 5 5 = true := by decide +kernel
set_option maxRecDepth 100000 in
theorem wblk_3_7_4 : wblkB8 3 7 4 = true := by decide +kernel
set_option maxRecDepth 100000 in
theorem wblk_4_3_2 : wblkB8 4 3 2 = true := by decide +kernel
set_option maxRecDepth 100000 in
theorem wblk_4_5_5 : wblkB8 4 5 5 = true := by decide +kernel
set_option maxRecDepth 100000 in
theorem wblk_4_7_4 : wblkB8 4 7 4 = true := by decide +kernel
set_option maxRecDepth 100000 in
theorem wblk_5_3_2 : wblkB8 5 3 2 = true := by decide +kernel
set_option maxRecDepth 100000 in
theorem wblk_5_5_5 : wblkB8 5 5 5 = true := by decide +kernel
set_option maxRecDepth 100000 in
theorem wblk_5_7_4 : wblkB8 5 7 4 = true := by decide +kernel
set_option maxRecDepth 100000 in
theorem wblk_6_3_2 : wblkB8 6 3 2 = true := by decide +kernel
set_option maxRecDepth 100000 in
theorem wblk_6_5_5 : wblkB8 6 5 5 = true := by decide +kernel
set_option maxRecDepth 100000 in
theorem wblk_6_7_4 : wblkB8 6 7 4 = true := by decide +kernel
set_option maxRecDepth 100000 in
theorem wblk_7_3_2 : wblkB8 7 3 2 = true := by decide +kernel
set_option maxRecDepth 100000 in
theorem wblk_7_5_5 : wblkB8 7 5 5 = true := by decide +kernel
set_option maxRecDepth 100000 in
theorem wblk_7_7_4 : wblkB8 7 7 4 = true := by decide +kernel
set_option maxRecDepth 100000 in
theorem wblk_8_3_2 : wblkB8 8 3 2 = true := by decide +kernel
end Go.Proofs.YteapooonilhaiaaGreatDoor
