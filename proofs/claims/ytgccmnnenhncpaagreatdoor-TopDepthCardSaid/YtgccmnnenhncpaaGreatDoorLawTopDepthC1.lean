/-
  TopDepth: cases, run (1).
-/
import Derived.Test.YtgccmnnenhncpaaGreatDoorLawTopDepthS
namespace Go.Proofs.YtgccmnnenhncpaaGreatDoor
open Go Vx

noncomputable def tdepU1 (k : Nat) : Bool := runS 16 tdepL [⟨1, 31, k, 31⟩] [.and 0 31 k] 7 [.int .i64 (.var 0), .int .i64 (.var 1)]
noncomputable def tdepV1 (e : Nat) : Bool := runS 16 tdepL [⟨0, 31, e + 1, 31⟩] [.and 1 31 e] 7 [.int .i64 (.var 0), .int .i64 (.var 1)]
set_option maxRecDepth 100000 in
theorem tdep_U_2 : tdepU1 2 = true := by decide +kernel
set_option maxRecDepth 100000 in
theorem tdep_U_6 : tdepU1 6 = true := by decide +kernel
set_option maxRecDepth 100000 in
theorem tdep_U_10 : tdepU1 10 = true := by decide +kernel
set_option maxRecDepth 100000 in
theorem tdep_U_14 : tdepU1 14 = true := by decide +kernel
set_option maxRecDepth 100000 in
theorem tdep_U_18 : tdepU1 18 = true := by decide +kernel
set_option maxRecDepth 100000 in
theorem tdep_U_22 : tdepU1 22 = true := by decide +kernel
set_option maxRecDepth 100000 in
theorem tdep_U_26 : tdepU1 26 = true := by decide +kernel
set_option maxRecDepth 100000 in
theorem tdep_U_30 : tdepU1 30 = true := by decide +kernel
end Go.Proofs.YtgccmnnenhncpaaGreatDoor
