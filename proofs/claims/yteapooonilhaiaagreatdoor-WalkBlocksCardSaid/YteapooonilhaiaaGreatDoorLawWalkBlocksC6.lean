/-
  WalkBlocks: cases, run (6).
-/
import Derived.Test.YteapooonilhaiaaGreatDoorWalkBase
namespace Go.Proofs.YteapooonilhaiaaGreatDoor
open Go Vx

noncomputable def wblkB6 (p : Nat) (q : Nat) (r : Nat) : Bool := runM 5 [⟨0, 4294967295, wLo p, wHi p⟩] [.and 1 7 q, .rem 2 (1 + q) r] 3 [.int .i64 (.var 0), .int .i64 (.var 1), .int .i64 (.var 2)]
set_option maxRecDepth 100000 in
theorem wblk_0_3_0 : wblkB6 0 3 0 = true := by decide +kernel
set_option maxRecDepth 100000 in
theorem wblk_0_5_3 : wblkB6 0 5 3 = true := by decide +kernel
set_option maxRecDepth 100000 in
theorem wblk_0_7_2 : wblkB6 0 7 2 = true := by decide +kernel
set_option maxRecDepth 100000 in
theorem wblk_1_3_0 : wblkB6 1 3 0 = true := by decide +kernel
set_option maxRecDepth 100000 in
theorem wblk_1_5_3 : wblkB6 1 5 3 = true := by decide +kernel
set_option maxRecDepth 100000 in
theorem wblk_1_7_2 : wblkB6 1 7 2 = true := by decide +kernel
set_option maxRecDepth 100000 in
theorem wblk_2_3_0 : wblkB6 2 3 0 = true := by decide +kernel
set_option maxRecDepth 100000 in
theorem wblk_2_5_3 : wblkB6 2 5 3 = true := by decide +kernel
set_option maxRecDepth 100000 in
theorem wblk_2_7_2 : wblkB6 2 7 2 = true := by decide +kernel
set_option maxRecDepth 100000 in
theorem wblk_3_3_0 : wblkB6 3 3 0 = true := by decide +kernel
set_option maxRecDepth 100000 in
theorem wblk_3_5_3 : wblkB6 3 5 3 = true := by decide +kernel
set_option maxRecDepth 100000 in
theorem wblk_3_7_2 : wblkB6 3 7 2 = true := by decide +kernel
set_option maxRecDepth 100000 in
theorem wblk_4_3_0 : wblkB6 4 3 0 = true := by decide +kernel
set_option maxRecDepth 100000 in
theorem wblk_4_5_3 : wblkB6 4 5 3 = true := by decide +kernel
set_option maxRecDepth 100000 in
theorem wblk_4_7_2 : wblkB6 4 7 2 = true := by decide +kernel
set_option maxRecDepth 100000 in
theorem wblk_5_3_0 : wblkB6 5 3 0 = true := by decide +kernel
set_option maxRecDepth 100000 in
theorem wblk_5_5_3 : wblkB6 5 5 3 = true := by decide +kernel
set_option maxRecDepth 100000 in
theorem wblk_5_7_2 : wblkB6 5 7 2 = true := by decide +kernel
set_option maxRecDepth 100000 in
theorem wblk_6_3_0 : wblkB6 6 3 0 = true := by decide +kernel
set_option maxRecDepth 100000 in
theorem wblk_6_5_3 : wblkB6 6 5 3 = true := by decide +kernel
set_option maxRecDepth 100000 in
theorem wblk_6_7_2 : wblkB6 6 7 2 = true := by decide +kernel
set_option maxRecDepth 100000 in
theorem wblk_7_3_0 : wblkB6 7 3 0 = true := by decide +kernel
set_option maxRecDepth 100000 in
theorem wblk_7_5_3 : wblkB6 7 5 3 = true := by decide +kernel
set_option maxRecDepth 100000 in
theorem wblk_7_7_2 : wblkB6 7 7 2 = true := by decide +kernel
set_option maxRecDepth 100000 in
theorem wblk_8_3_0 : wblkB6 8 3 0 = true := by decide +kernel
end Go.Proofs.YteapooonilhaiaaGreatDoor
