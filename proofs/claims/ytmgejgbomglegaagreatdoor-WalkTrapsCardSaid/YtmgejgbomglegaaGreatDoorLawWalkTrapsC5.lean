/-
  WalkTraps: cases, run (5).
-/
import Derived.Test.YtmgejgbomglegaaGreatDoorWalkBase
namespace Go.Proofs.YtmgejgbomglegaaGreatDoor
open Go Vx

noncomputable def wtrapsB5 (p : Nat) (q : Nat) : Bool := walkM [.rem 0 7 p, .and 1 15 q] 6 [.int .i64 (.var 0), .int .i64 (.var 1)]
set_option maxRecDepth 100000 in
theorem wtraps_0_5 : wtrapsB5 0 5 = true := by decide +kernel
set_option maxRecDepth 100000 in
theorem wtraps_0_13 : wtrapsB5 0 13 = true := by decide +kernel
set_option maxRecDepth 100000 in
theorem wtraps_1_5 : wtrapsB5 1 5 = true := by decide +kernel
set_option maxRecDepth 100000 in
theorem wtraps_1_13 : wtrapsB5 1 13 = true := by decide +kernel
set_option maxRecDepth 100000 in
theorem wtraps_2_5 : wtrapsB5 2 5 = true := by decide +kernel
set_option maxRecDepth 100000 in
theorem wtraps_2_13 : wtrapsB5 2 13 = true := by decide +kernel
set_option maxRecDepth 100000 in
theorem wtraps_3_5 : wtrapsB5 3 5 = true := by decide +kernel
set_option maxRecDepth 100000 in
theorem wtraps_3_13 : wtrapsB5 3 13 = true := by decide +kernel
set_option maxRecDepth 100000 in
theorem wtraps_4_5 : wtrapsB5 4 5 = true := by decide +kernel
set_option maxRecDepth 100000 in
theorem wtraps_4_13 : wtrapsB5 4 13 = true := by decide +kernel
set_option maxRecDepth 100000 in
theorem wtraps_5_5 : wtrapsB5 5 5 = true := by decide +kernel
set_option maxRecDepth 100000 in
theorem wtraps_5_13 : wtrapsB5 5 13 = true := by decide +kernel
set_option maxRecDepth 100000 in
theorem wtraps_6_5 : wtrapsB5 6 5 = true := by decide +kernel
set_option maxRecDepth 100000 in
theorem wtraps_6_13 : wtrapsB5 6 13 = true := by decide +kernel
end Go.Proofs.YtmgejgbomglegaaGreatDoor
