/-
  TopDepth: cases, run (4).
-/
import Derived.Test.YtgccmnnenhncpaaGreatDoorLawTopDepthS
namespace Go.Proofs.YtgccmnnenhncpaaGreatDoor
open Go Vx

noncomputable def tdepU4 (k : Nat) : Bool := runS 16 tdepL [⟨1, 31, k, 31⟩] [.and 0 31 k] 7 [.int .i64 (.var 0), .int .i64 (.var 1)]
noncomputable def tdepV4 (e : Nat) : Bool := runS 16 tdepL [⟨0, 31, e + 1, 31⟩] [.and 1 31 e] 7 [.int .i64 (.var 0), .int .i64 (.var 1)]
set_option maxRecDepth 100000 in
theorem tdep_V_1 : tdepV4 1 = true := by decide +kernel
set_option maxRecDepth 100000 in
theorem tdep_V_5 : tdepV4 5 = true := by decide +kernel
set_option maxRecDepth 100000 in
theorem tdep_V_9 : tdepV4 9 = true := by decide +kernel
set_option maxRecDepth 100000 in
theorem tdep_V_13 : tdepV4 13 = true := by decide +kernel
set_option maxRecDepth 100000 in
theorem tdep_V_17 : tdepV4 17 = true := by decide +kernel
set_option maxRecDepth 100000 in
theorem tdep_V_21 : tdepV4 21 = true := by decide +kernel
set_option maxRecDepth 100000 in
theorem tdep_V_25 : tdepV4 25 = true := by decide +kernel
set_option maxRecDepth 100000 in
theorem tdep_V_29 : tdepV4 29 = true := by decide +kernel
end Go.Proofs.YtgccmnnenhncpaaGreatDoor
