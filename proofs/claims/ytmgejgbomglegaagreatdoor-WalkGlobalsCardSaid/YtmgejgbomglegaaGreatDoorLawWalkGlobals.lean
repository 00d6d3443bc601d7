/-
  WalkGlobals: what a call of it comes to.
-/
import Derived.Test.YtmgejgbomglegaaGreatDoorLawWalkGlobalsC0
namespace Go.Proofs.YtmgejgbomglegaaGreatDoor
open Go Vx

theorem wglob_all : walkM [] 7 [.int .i64 (.var 0)] = true := by
  exact wglob
theorem wglob_any (a : Int) (w : World) : Calls Tryz.prog 7 #[.int .i64 a] w fun e w' => e = .returned (.bool true) ∧ Go.RowKit.Below w.heap.size w w' := by
  exact walkM_calls (ρ := rho3 a 0 0) all_nil (by decide) wglob_all (.cons (.int rfl) .nil) w
end Go.Proofs.YtmgejgbomglegaaGreatDoor
