/-
  WalkTraps: cases, run (3).
-/
import Derived.Test.YtmgejgbomglegaaGreatDoorWalkBase
namespace Go.Proofs.YtmgejgbomglegaaGreatDoor
open Go Vx

noncomputable def wtrapsB3 (p : Nat) (q : Nat) : Bool := walkM [.rem 0 7 p, .and 1 15 q] 6 [.int .i64 (.var 0), .int .i64 (.var 1)]
set_option maxRecDepth 100000 in
theorem wtraps_0_3 : wtrapsB3 0 3 = true := by decide +kernel
set_option maxRecDepth 100000 in
theorem wtraps_0_11 : wtrapsB3 0 11 = true := by decide +kernel
set_option maxRecDepth 100000 in
theorem wtraps_1_3 : wtrapsB3 1 3 = true := by decide +kernel
set_option maxRecDepth 100000 in
theorem wtraps_1_11 : wtrapsB3 1 11 = true := by decide +kernel
set_option maxRecDepth 100000 in
theorem wtraps_2_3 : wtrapsB3 2 3 = true := by decide +kernel
set_option maxRecDepth 100000 in
theorem wtraps_2_11 : wtrapsB3 2 11 = true := by decide +kernel
set_option maxRecDepth 100000 in
theorem wtraps_3_3 : wtrapsB3 3 3 = true := by decide +kernel
set_option maxRecDepth 100000 in
theorem wtraps_3_11 : wtrapsB3 3 11 = true := by decide +kernel
set_option maxRecDepth 100000 in
theorem wtraps_4_3 : wtrapsB3 4 3 = true := by decide +kernel
set_option maxRecDepth 100000 in
theorem wtraps_4_11 : wtrapsB3 4 11 = true := by decide +kernel
set_option maxRecDepth 100000 in
theorem wtraps_5_3 : wtrapsB3 5 3 = true := by decide +kernel
set_option maxRecDepth 100000 in
theorem wtraps_5_11 : wtrapsB3 5 11 = true := by decide +kernel
set_option maxRecDepth 100000 in
theorem wtraps_6_3 : wtrapsB3 6 3 = true := by decide +kernel
set_option maxRecDepth 100000 in
theorem wtraps_6_11 : wtrapsB3 6 11 = true := by decide +kernel
end Go.Proofs.YtmgejgbomglegaaGreatDoor
