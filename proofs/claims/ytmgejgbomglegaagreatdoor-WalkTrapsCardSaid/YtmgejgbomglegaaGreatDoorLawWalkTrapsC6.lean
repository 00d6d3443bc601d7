/-
  WalkTraps: cases, run (6).
-/
import Derived.Test.YtmgejgbomglegaaGreatDoorWalkBase
namespace Go.Proofs.YtmgejgbomglegaaGreatDoor
open Go Vx

noncomputable def wtrapsB6 (p : Nat) (q : Nat) : Bool := walkM [.rem 0 7 p, .and 1 15 q] 6 [.int .i64 (.var 0), .int .i64 (.var 1)]
set_option maxRecDepth 100000 in
theorem wtraps_0_6 : wtrapsB6 0 6 = true := by decide +kernel
set_option maxRecDepth 100000 in
theorem wtraps_0_14 : wtrapsB6 0 14 = true := by decide +kernel
set_option maxRecDepth 100000 in
theorem wtraps_1_6 : wtrapsB6 1 6 = true := by decide +kernel
set_option maxRecDepth 100000 in
theorem wtraps_1_14 : wtrapsB6 1 14 = true := by decide +kernel
set_option maxRecDepth 100000 in
theorem wtraps_2_6 : wtrapsB6 2 6 = true := by decide +kernel
set_option maxRecDepth 100000 in
theorem wtraps_2_14 : wtrapsB6 2 14 = true := by decide +kernel
set_option maxRecDepth 100000 in
theorem wtraps_3_6 : wtrapsB6 3 6 = true := by decide +kernel
set_option maxRecDepth 100000 in
theorem wtraps_3_14 : wtrapsB6 3 14 = true := by decide +kernel
set_option maxRecDepth 100000 in
theorem wtraps_4_6 : wtrapsB6 4 6 = true := by decide +kernel
set_option maxRecDepth 100000 in
theorem wtraps_4_14 : wtrapsB6 4 14 = true := by decide +kernel
set_option maxRecDepth 100000 in
theorem wtraps_5_6 : wtrapsB6 5 6 = true := by decide +kernel
set_option maxRecDepth 100000 in
theorem wtraps_5_14 : wtrapsB6 5 14 = true := by decide +kernel
set_option maxRecDepth 100000 in
theorem wtraps_6_6 : wtrapsB6 6 6 = true := by decide +kernel
set_option maxRecDepth 100000 in
theorem wtraps_6_14 : wtrapsB6 6 14 = true := by decide +kernel
end Go.Proofs.YtmgejgbomglegaaGreatDoor
