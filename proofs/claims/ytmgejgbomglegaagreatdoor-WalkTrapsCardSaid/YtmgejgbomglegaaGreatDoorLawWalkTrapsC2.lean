/-
  WalkTraps: cases, run (2).
-/
import Derived.Test.YtmgejgbomglegaaGreatDoorWalkBase
namespace Go.Proofs.YtmgejgbomglegaaGreatDoor
open Go Vx

noncomputable def wtrapsB2 (p : Nat) (q : Nat) : Bool := walkM [.rem 0 7 p, .and 1 15 q] 6 [.int .i64 (.var 0), .int .i64 (.var 1)]
set_option maxRecDepth 100000 in
theorem wtraps_0_2 : wtrapsB2 0 2 = true := by decide +kernel
set_option maxRecDepth 100000 in
theorem wtraps_0_10 : wtrapsB2 0 10 = true := by decide +kernel
set_option maxRecDepth 100000 in
theorem wtraps_1_2 : wtrapsB2 1 2 = true := by decide +kernel
set_option maxRecDepth 100000 in
theorem wtraps_1_10 : wtrapsB2 1 10 = true := by decide +kernel
set_option maxRecDepth 100000 in
theorem wtraps_2_2 : wtrapsB2 2 2 = true := by decide +kernel
set_option maxRecDepth 100000 in
theorem wtraps_2_10 : wtrapsB2 2 10 = true := by decide +kernel
set_option maxRecDepth 100000 in
theorem wtraps_3_2 : wtrapsB2 3 2 = true := by decide +kernel
set_option maxRecDepth 100000 in
theorem wtraps_3_10 : wtrapsB2 3 10 = true := by decide +kernel
set_option maxRecDepth 100000 in
theorem wtraps_4_2 : wtrapsB2 4 2 = true := by decide +kernel
set_option maxRecDepth 100000 in
theorem wtraps_4_10 : wtrapsB2 4 10 = true := by decide +kernel
set_option maxRecDepth 100000 in
theorem wtraps_5_2 : wtrapsB2 5 2 = true := by decide +kernel
set_option maxRecDepth 100000 in
theorem wtraps_5_10 : wtrapsB2 5 10 = true := by decide +kernel
set_option maxRecDepth 100000 in
theorem wtraps_6_2 : wtrapsB2 6 2 = true := by decide +kernel
set_option maxRecDepth 100000 in
theorem wtraps_6_10 : wtrapsB2 6 10 = true := by decide +kernel
end Go.Proofs.YtmgejgbomglegaaGreatDoor
