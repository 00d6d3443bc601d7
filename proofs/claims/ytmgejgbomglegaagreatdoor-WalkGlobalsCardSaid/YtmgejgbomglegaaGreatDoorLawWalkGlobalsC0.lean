/-
  WalkGlobals: cases, run (0).
-/
import Derived.Test.YtmgejgbomglegaaGreatDoorWalkBase
namespace Go.Proofs.YtmgejgbomglegaaGreatDoor
open Go Vx

noncomputable def wglobB0 : Bool := walkM [] 7 [.int .i64 (.var 0)]
set_option maxRecDepth 100000 in
theorem wglob : wglobB0 = true := by decide +kernel
end Go.Proofs.YtmgejgbomglegaaGreatDoor
