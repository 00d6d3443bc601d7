/-
  WalkTraps: cases, run (0).
-/
import Derived.Test.YtmgejgbomglegaaGreatDoorWalkBase
namespace Go.Proofs.YtmgejgbomglegaaGreatDoor
open Go Vx

noncomputable def wtrapsB0 (p : Nat) (q : Nat) : Bool := walkM [.rem 0 7 p, .and 1 15 q] 6 [.int .i64 (.var 0), .int .i64 (.var 1)]
set_option maxRecDepth 100000 in
theorem wtraps_0_0 : wtrapsB0 0 0 = true := by decide +kernel
set_option maxRecDepth 100000 in
theorem wtraps_0_8 : wtrapsB0 0 8 = true := by decide +kernel
set_option maxRecDepth 100000 in
theorem wtraps_1_0 : wtrapsB0 1 0 = true := by decide +kernel
set_option maxRecDepth 100000 in
theorem wtraps_1_8 : wtrapsB0 1 8 = true := by decide +kernel
set_option maxRecDepth 100000 in
theorem wtraps_2_0 : wtrapsB0 2 0 = true := by decide +kernel
set_option maxRecDepth 100000 in
theorem wtraps_2_8 : wtrapsB0 2 8 = true := by decide +kernel
set_option maxRecDepth 100000 in
theorem wtraps_3_0 : wtrapsB0 3 0 = true := by decide +kernel
set_option maxRecDepth 100000 in
theorem wtraps_3_8 : wtrapsB0 3 8 = true := by decide +kernel
set_option maxRecDepth 100000 in
theorem wtraps_4_0 : wtrapsB0 4 0 = true := by decide +kernel
set_option maxRecDepth 100000 in
theorem wtraps_4_8 : wtrapsB0 4 8 = true := by decide +kernel
set_option maxRecDepth 100000 in
theorem wtraps_5_0 : wtrapsB0 5 0 = true := by decide +kernel
set_option maxRecDepth 100000 in
theorem wtraps_5_8 : wtrapsB0 5 8 = true := by decide +kernel
set_option maxRecDepth 100000 in
theorem wtraps_6_0 : wtrapsB0 6 0 = true := by decide +kernel
set_option maxRecDepth 100000 in
theorem wtraps_6_8 : wtrapsB0 6 8 = true := by decide +kernel
end Go.Proofs.YtmgejgbomglegaaGreatDoor
