/-
  RunNames: cases, run (0).
-/
import Derived.Test.YtgccmnnenhncpaaGreatDoorRunBase
namespace Go.Proofs.YtgccmnnenhncpaaGreatDoor
open Go Vx

noncomputable def rnamB0 (p : Nat) (r : Nat) : Bool := runM 8 [] [.rem 0 8 p, .and 2 1 r] 3 [.int .i64 (.var 0), .int .i64 (.var 1), .int .i64 (.var 2)]
set_option maxRecDepth 100000 in
theorem rnam_0_0 : rnamB0 0 0 = true := by decide +kernel
set_option maxRecDepth 100000 in
theorem rnam_2_0 : rnamB0 2 0 = true := by decide +kernel
set_option maxRecDepth 100000 in
theorem rnam_4_0 : rnamB0 4 0 = true := by decide +kernel
set_option maxRecDepth 100000 in
theorem rnam_6_0 : rnamB0 6 0 = true := by decide +kernel
end Go.Proofs.YtgccmnnenhncpaaGreatDoor
