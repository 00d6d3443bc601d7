/-
  WalkBlocks: cases, run (5).
-/
import Derived.Test.YteapooonilhaiaaGreatDoorWalkBase
namespace Go.Proofs.YteapooonilhaiaaGreatDoor
open Go Vx

noncomputable def wblkB5 (p : Nat) (q : Nat) (r : Nat) : Bool := runM 5 [⟨0, 4294967295, wLo p, wHi p⟩] [.and 1 7 q, .rem 2 (1 + q) r] 3 [.int .i64 (.var 0), .int .i64 (.var 1), .int .i64 (.var 2)]
set_option maxRecDepth 100000 in
theorem wblk_0_2_2 : wblkB5 0 2 2 = true := by decide +kernel
set_option maxRecDepth 100000 in
theorem wblk_0_5_2 : wblkB5 0 5 2 = true := by decide +kernel
set_option maxRecDepth 100000 in
theorem wblk_0_7_1 : wblkB5 0 7 1 = true := by decide +kernel
set_option maxRecDepth 100000 in
theorem wblk_1_2_2 : wblkB5 1 2 2 = true := by decide +kernel
set_option maxRecDepth 100000 in
theorem wblk_1_5_2 : wblkB5 1 5 2 = true := by decide +kernel
set_option maxRecDepth 100000 in
theorem wblk_1_7_1 : wblkB5 1 7 1 = true := by decide +kernel
set_option maxRecDepth 100000 in
theorem wblk_2_2_2 : wblkB5 2 2 2 = true := by decide +kernel
set_option maxRecDepth 100000 in
theorem wblk_2_5_2 : wblkB5 2 5 2 = true := by decide +kernel
set_option maxRecDepth 100000 in
theorem wblk_2_7_1 : wblkB5 2 7 1 = true := by decide +kernel
set_option maxRecDepth 100000 in
theorem wblk_3_2_2 : wblkB5 3 2 2 = true := by decide +kernel
set_option maxRecDepth 100000 in
theorem wblk_3_5_2 : wblkB5 3 5 2 = true := by decide +kernel
set_option maxRecDepth 100000 in
theorem wblk_3_7_1 : wblkB5 3 7 1 = true := by decide +kernel
set_option maxRecDepth 100000 in
theorem wblk_4_2_2 : wblkB5 4 2 2 = true := by decide +kernel
set_option maxRecDepth 100000 in
theorem wblk_4_5_2 : wblkB5 4 5 2 = true := by decide +kernel
set_option maxRecDepth 100000 in
theorem wblk_4_7_1 : wblkB5 4 7 1 = true := by decide +kernel
set_option maxRecDepth 100000 in
theorem wblk_5_2_2 : wblkB5 5 2 2 = true := by decide +kernel
set_option maxRecDepth 100000 in
theorem wblk_5_5_2 : wblkB5 5 5 2 = true := by decide +kernel
set_option maxRecDepth 100000 in
theorem wblk_5_7_1 : wblkB5 5 7 1 = true := by decide +kernel
set_option maxRecDepth 100000 in
theorem wblk_6_2_2 : wblkB5 6 2 2 = true := by decide +kernel
set_option maxRecDepth 100000 in
theorem wblk_6_5_2 : wblkB5 6 5 2 = true := by decide +kernel
set_option maxRecDepth 100000 in
theorem wblk_6_7_1 : wblkB5 6 7 1 = true := by decide +kernel
set_option maxRecDepth 100000 in
theorem wblk_7_2_2 : wblkB5 7 2 2 = true := by decide +kernel
set_option maxRecDepth 100000 in
theorem wblk_7_5_2 : wblkB5 7 5 2 = true := by decide +kernel
set_option maxRecDepth 100000 in
theorem wblk_7_7_1 : wblkB5 7 7 1 = true := by decide +kernel
set_option maxRecDepth 100000 in
theorem wblk_8_2_2 : wblkB5 8 2 2 = true := by decide +kernel
end Go.Proofs.YteapooonilhaiaaGreatDoor
