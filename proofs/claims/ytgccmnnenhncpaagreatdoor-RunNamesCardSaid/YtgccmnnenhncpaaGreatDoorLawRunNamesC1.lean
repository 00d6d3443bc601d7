/-
  RunNames: cases, run (1).
-/
import Derived.Test.YtgccmnnenhncpaaGreatDoorRunBase
namespace Go.Proofs.YtgccmnnenhncpaaGreatDoor
open Go Vx

noncomputable def rnamB1 (p : Nat) (r : Nat) : Bool := runM 8 [] [.rem 0 8 p, .and 2 1 r] 3 [.int .i64 (.var 0), .int .i64 (.var 1), .int .i64 (.var 2)]
set_option maxRecDepth 100000 in
theorem rnam_0_1 : rnamB1 0 1 = true := by decide +kernel
set_option maxRecDepth 100000 in
theorem rnam_2_1 : rnamB1 2 1 = true := by decide +kernel
set_option maxRecDepth 100000 in
theorem rnam_4_1 : rnamB1 4 1 = true := by decide +kernel
set_option maxRecDepth 100000 in
theorem rnam_6_1 : rnamB1 6 1 = true := by decide +kernel
end Go.Proofs.YtgccmnnenhncpaaGreatDoor
