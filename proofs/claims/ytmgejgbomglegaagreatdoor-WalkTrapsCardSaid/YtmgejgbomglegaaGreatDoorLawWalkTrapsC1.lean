/-
  WalkTraps: cases, run (1).
-/
import Derived.Test.YtmgejgbomglegaaGreatDoorWalkBase
namespace Go.Proofs.YtmgejgbomglegaaGreatDoor
open Go Vx

noncomputable def wtrapsB1 (p : Nat) (q : Nat) : Bool := walkM [.rem 0 7 p, .and 1 15 q] 6 [.int .i64 (.var 0), .int .i64 (.var 1)]
set_option maxRecDepth 100000 in
theorem wtraps_0_1 : wtrapsB1 0 1 = true := by decide +kernel
set_option maxRecDepth 100000 in
theorem wtraps_0_9 : wtrapsB1 0 9 = true := by decide +kernel
set_option maxRecDepth 100000 in
theorem wtraps_1_1 : wtrapsB1 1 1 = true := by decide +kernel
set_option maxRecDepth 100000 in
theorem wtraps_1_9 : wtrapsB1 1 9 = true := by decide +kernel
set_option maxRecDepth 100000 in
theorem wtraps_2_1 : wtrapsB1 2 1 = true := by decide +kernel
set_option maxRecDepth 100000 in
theorem wtraps_2_9 : wtrapsB1 2 9 = true := by decide +kernel
set_option maxRecDepth 100000 in
theorem wtraps_3_1 : wtrapsB1 3 1 = true := by decide +kernel
set_option maxRecDepth 100000 in
theorem wtraps_3_9 : wtrapsB1 3 9 = true := by decide +kernel
set_option maxRecDepth 100000 in
theorem wtraps_4_1 : wtrapsB1 4 1 = true := by decide +kernel
set_option maxRecDepth 100000 in
theorem wtraps_4_9 : wtrapsB1 4 9 = true := by decide +kernel
set_option maxRecDepth 100000 in
theorem wtraps_5_1 : wtrapsB1 5 1 = true := by decide +kernel
set_option maxRecDepth 100000 in
theorem wtraps_5_9 : wtrapsB1 5 9 = true := by decide +kernel
set_option maxRecDepth 100000 in
theorem wtraps_6_1 : wtrapsB1 6 1 = true := by decide +kernel
set_option maxRecDepth 100000 in
theorem wtraps_6_9 : wtrapsB1 6 9 = true := by decide +kernel
end Go.Proofs.YtmgejgbomglegaaGreatDoor
