/-
  WalkTraps: cases, run (4).
-/
import Derived.Test.YtmgejgbomglegaaGreatDoorWalkBase
namespace Go.Proofs.YtmgejgbomglegaaGreatDoor
open Go Vx

noncomputable def wtrapsB4 (p : Nat) (q : Nat) : Bool := walkM [.rem 0 7 p, .and 1 15 q] 6 [.int .i64 (.var 0), .int .i64 (.var 1)]
set_option maxRecDepth 100000 in
theorem wtraps_0_4 : wtrapsB4 0 4 = true := by decide +kernel
set_option maxRecDepth 100000 in
theorem wtraps_0_12 : wtrapsB4 0 12 = true := by decide +kernel
set_option maxRecDepth 100000 in
theorem wtraps_1_4 : wtrapsB4 1 4 = true := by decide +kernel
set_option maxRecDepth 100000 in
theorem wtraps_1_12 : wtrapsB4 1 12 = true := by decide +kernel
set_option maxRecDepth 100000 in
theorem wtraps_2_4 : wtrapsB4 2 4 = true := by decide +kernel
set_option maxRecDepth 100000 in
theorem wtraps_2_12 : wtrapsB4 2 12 = true := by decide +kernel
set_option maxRecDepth 100000 in
theorem wtraps_3_4 : wtrapsB4 3 4 = true := by decide +kernel
set_option maxRecDepth 100000 in
theorem wtraps_3_12 : wtrapsB4 3 12 = true := by decide +kernel
set_option maxRecDepth 100000 in
theorem wtraps_4_4 : wtrapsB4 4 4 = true := by decide +kernel
set_option maxRecDepth 100000 in
theorem wtraps_4_12 : wtrapsB4 4 12 = true := by decide +kernel
set_option maxRecDepth 100000 in
theorem wtraps_5_4 : wtrapsB4 5 4 = true := by decide +kernel
set_option maxRecDepth 100000 in
theorem wtraps_5_12 : wtrapsB4 5 12 = true := by decide +kernel
set_option maxRecDepth 100000 in
theorem wtraps_6_4 : wtrapsB4 6 4 = true := by decide +kernel
set_option maxRecDepth 100000 in
theorem wtraps_6_12 : wtrapsB4 6 12 = true := by decide +kernel
end Go.Proofs.YtmgejgbomglegaaGreatDoor
