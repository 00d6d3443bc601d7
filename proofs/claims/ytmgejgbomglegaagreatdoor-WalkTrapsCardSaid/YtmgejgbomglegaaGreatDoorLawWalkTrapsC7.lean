/-
  WalkTraps: cases, run (7).
-/
import Derived.Test.YtmgejgbomglegaaGreatDoorWalkBase
namespace Go.Proofs.YtmgejgbomglegaaGreatDoor
open Go Vx

noncomputable def wtrapsB7 (p : Nat) (q : Nat) : Bool := walkM [.rem 0 7 p, .and 1 15 q] 6 [.int .i64 (.var 0), .int .i64 (.var 1)]
set_option maxRecDepth 100000 in
theorem wtraps_0_7 : wtrapsB7 0 7 = true := by decide +kernel
set_option maxRecDepth 100000 in
theorem wtraps_0_15 : wtrapsB7 0 15 = true := by decide +kernel
set_option maxRecDepth 100000 in
theorem wtraps_1_7 : wtrapsB7 1 7 = true := by decide +kernel
set_option maxRecDepth 100000 in
theorem wtraps_1_15 : wtrapsB7 1 15 = true := by decide +kernel
set_option maxRecDepth 100000 in
theorem wtraps_2_7 : wtrapsB7 2 7 = true := by decide +kernel
set_option maxRecDepth 100000 in
theorem wtraps_2_15 : wtrapsB7 2 15 = true := by decide +kernel
set_option maxRecDepth 100000 in
theorem wtraps_3_7 : wtrapsB7 3 7 = true := by decide +kernel
set_option maxRecDepth 100000 in
theorem wtraps_3_15 : wtrapsB7 3 15 = true := by decide +kernel
set_option maxRecDepth 100000 in
theorem wtraps_4_7 : wtrapsB7 4 7 = true := by decide +kernel
set_option maxRecDepth 100000 in
theorem wtraps_4_15 : wtrapsB7 4 15 = true := by decide +kernel
set_option maxRecDepth 100000 in
theorem wtraps_5_7 : wtrapsB7 5 7 = true := by decide +kernel
set_option maxRecDepth 100000 in
theorem wtraps_5_15 : wtrapsB7 5 15 = true := by decide +kernel
set_option maxRecDepth 100000 in
theorem wtraps_6_7 : wtrapsB7 6 7 = true := by decide +kernel
set_option maxRecDepth 100000 in
theorem wtraps_6_15 : wtrapsB7 6 15 = true := by decide +kernel
end Go.Proofs.YtmgejgbomglegaaGreatDoor
