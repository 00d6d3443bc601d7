/-
  RunNames: cases, run (3).
-/
import Derived.Test.YtgccmnnenhncpaaGreatDoorRunBase
namespace Go.Proofs.YtgccmnnenhncpaaGreatDoor
open Go Vx

noncomputable def rnamB3 (p : Nat) (r : Nat) : Bool := runM 8 [] [.rem 0 8 p, .and 2 1 r] 3 [.int .i64 (.var 0), .int .i64 (.var 1), .int .i64 (.var 2)]
set_option maxRecDepth 100000 in
theorem rnam_1_1 : rnamB3 1 1 = true := by decide +kernel
set_option maxRecDepth 100000 in
theorem rnam_3_1 : rnamB3 3 1 = true := by decide +kernel
set_option maxRecDepth 100000 in
theorem rnam_5_1 : rnamB3 5 1 = true := by decide +kernel
set_option maxRecDepth 100000 in
theorem rnam_7_1 : rnamB3 7 1 = true := by decide +kernel
end Go.Proofs.YtgccmnnenhncpaaGreatDoor
