/-
  RunNames: cases, run (2).
-/
import Derived.Test.YtgccmnnenhncpaaGreatDoorRunBase
namespace Go.Proofs.YtgccmnnenhncpaaGreatDoor
open Go Vx

noncomputable def rnamB2 (p : Nat) (r : Nat) : Bool := runM 8 [] [.rem 0 8 p, .and 2 1 r] 3 [.int .i64 (.var 0), .int .i64 (.var 1), .int .i64 (.var 2)]
set_option maxRecDepth 100000 in
theorem rnam_1_0 : rnamB2 1 0 = true := by decide +kernel
set_option maxRecDepth 100000 in
theorem rnam_3_0 : rnamB2 3 0 = true := by decide +kernel
set_option maxRecDepth 100000 in
theorem rnam_5_0 : rnamB2 5 0 = true := by decide +kernel
set_option maxRecDepth 100000 in
theorem rnam_7_0 : rnamB2 7 0 = true := by decide +kernel
end Go.Proofs.YtgccmnnenhncpaaGreatDoor
