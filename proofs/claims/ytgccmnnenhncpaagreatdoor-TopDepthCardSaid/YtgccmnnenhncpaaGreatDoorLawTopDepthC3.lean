/-
  TopDepth: cases, run (3).
-/
import Derived.Test.YtgccmnnenhncpaaGreatDoorLawTopDepthS
namespace Go.Proofs.YtgccmnnenhncpaaGreatDoor
open Go Vx

noncomputable def tdepU3 (k : Nat) : Bool := runS 16 tdepL [⟨1, 31, k, 31⟩] [.and 0 31 k] 7 [.int .i64 (.var 0), .int .i64 (.var 1)]
noncomputable def tdepV3 (e : Nat) : Bool := runS 16 tdepL [⟨0, 31, e + 1, 31⟩] [.and 1 31 e] 7 [.int .i64 (.var 0), .int .i64 (.var 1)]
set_option maxRecDepth 100000 in
theorem tdep_U_1 : tdepU3 1 = true := by decide +kernel
set_option maxRecDepth 100000 in
theorem tdep_U_5 : tdepU3 5 = true := by decide +kernel
set_option maxRecDepth 100000 in
theorem tdep_U_9 : tdepU3 9 = true := by decide +kernel
set_option maxRecDepth 100000 in
theorem tdep_U_13 : tdepU3 13 = true := by decide +kernel
set_option maxRecDepth 100000 in
theorem tdep_U_17 : tdepU3 17 = true := by decide +kernel
set_option maxRecDepth 100000 in
theorem tdep_U_21 : tdepU3 21 = true := by decide +kernel
set_option maxRecDepth 100000 in
theorem tdep_U_25 : tdepU3 25 = true := by decide +kernel
set_option maxRecDepth 100000 in
theorem tdep_U_29 : tdepU3 29 = true := by decide +kernel
end Go.Proofs.YtgccmnnenhncpaaGreatDoor
