/-
  WalkBlocks: cases, run (13).
-/
import Derived.Test.YteapooonilhaiaaGreatDoorWalkBase
namespace Go.Proofs.YteapooonilhaiaaGreatDoor
open Go Vx

noncomputable def wblkB13 (p : Nat) (q : Nat) (r : Nat) : Bool := runM 5 [⟨0, 4294967295, wLo p, wHi p⟩] [.and 1 7 q, .rem 2 (1 + q) r] 3 [.int .i64 (.var 0), .int .i64 (.var 1), .int .i64 (.var 2)]
set_option maxRecDepth 100000 in
theorem wblk_8_6_3 : wblkB13 8 6 3 = true := by decide +kernel
set_option maxRecDepth 100000 in
theorem wblk_9_6_3 : wblkB13 9 6 3 = true := by decide +kernel
set_option maxRecDepth 100000 in
theorem wblk_10_6_3 : wblkB13 10 6 3 = true := by decide +kernel
set_option maxRecDepth 100000 in
theorem wblk_9_1_0 : wblkB13 9 1 0 = true := by decide +kernel
set_option maxRecDepth 100000 in
theorem wblk_10_1_0 : wblkB13 10 1 0 = true := by decide +kernel
set_option maxRecDepth 100000 in
theorem wblk_8_4_4 : wblkB13 8 4 4 = true := by decide +kernel
set_option maxRecDepth 100000 in
theorem wblk_9_4_4 : wblkB13 9 4 4 = true := by decide +kernel
set_option maxRecDepth 100000 in
theorem wblk_10_4_4 : wblkB13 10 4 4 = true := by decide +kernel
set_option maxRecDepth 100000 in
theorem wblk_8_6_6 : wblkB13 8 6 6 = true := by decide +kernel
set_option maxRecDepth 100000 in
theorem wblk_9_6_6 : wblkB13 9 6 6 = true := by decide +kernel
set_option maxRecDepth 100000 in
theorem wblk_10_6_6 : wblkB13 10 6 6 = true := by decide +kernel
set_option maxRecDepth 100000 in
theorem wblk_9_2_1 : wblkB13 9 2 1 = true := by decide +kernel
set_option maxRecDepth 100000 in
theorem wblk_10_2_1 : wblkB13 10 2 1 = true := by decide +kernel
set_option maxRecDepth 100000 in
theorem wblk_8_5_2 : wblkB13 8 5 2 = true := by decide +kernel
set_option maxRecDepth 100000 in
theorem wblk_9_5_2 : wblkB13 9 5 2 = true := by decide +kernel
set_option maxRecDepth 100000 in
theorem wblk_10_5_2 : wblkB13 10 5 2 = true := by decide +kernel
set_option maxRecDepth 100000 in
theorem wblk_8_7_2 : wblkB13 8 7 2 = true := by decide +kernel
set_option maxRecDepth 100000 in
theorem wblk_9_7_2 : wblkB13 9 7 2 = true := by decide +kernel
set_option maxRecDepth 100000 in
theorem wblk_10_7_2 : wblkB13 10 7 2 = true := by decide +kernel
set_option maxRecDepth 100000 in
theorem wblk_9_3_1 : wblkB13 9 3 1 = true := by decide +kernel
set_option maxRecDepth 100000 in
theorem wblk_10_3_1 : wblkB13 10 3 1 = true := by decide +kernel
set_option maxRecDepth 100000 in
theorem wblk_8_5_5 : wblkB13 8 5 5 = true := by decide +kernel
set_option maxRecDepth 100000 in
theorem wblk_9_5_5 : wblkB13 9 5 5 = true := by decide +kernel
set_option maxRecDepth 100000 in
theorem wblk_10_5_5 : wblkB13 10 5 5 = true := by decide +kernel
end Go.Proofs.YteapooonilhaiaaGreatDoor
