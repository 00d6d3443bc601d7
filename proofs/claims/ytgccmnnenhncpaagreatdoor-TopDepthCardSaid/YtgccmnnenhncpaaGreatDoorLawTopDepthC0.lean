/-
  TopDepth: cases, run (0).
-/
import Derived.Test.YtgccmnnenhncpaaGreatDoorLawTopDepthS
namespace Go.Proofs.YtgccmnnenhncpaaGreatDoor
open Go Vx

noncomputable def tdepU0 (k : Nat) : Bool := runS 16 tdepL [⟨1, 31, k, 31⟩] [.and 0 31 k] 7 [.int .i64 (.var 0), .int .i64 (.var 1)]
noncomputable def tdepV0 (e : Nat) : Bool := runS 16 tdepL [⟨0, 31, e + 1, 31⟩] [.and 1 31 e] 7 [.int .i64 (.var 0), .int .i64 (.var 1)]
set_option maxRecDepth 100000 in
theorem tdep_U_31 : tdepU0 31 = true := by decide +kernel
set_option maxRecDepth 100000 in
theorem tdep_V_3 : tdepV0 3 = true := by decide +kernel
set_option maxRecDepth 100000 in
theorem tdep_V_7 : tdepV0 7 = true := by decide +kernel
set_option maxRecDepth 100000 in
theorem tdep_V_11 : tdepV0 11 = true := by decide +kernel
set_option maxRecDepth 100000 in
theorem tdep_V_15 : tdepV0 15 = true := by decide +kernel
set_option maxRecDepth 100000 in
theorem tdep_V_19 : tdepV0 19 = true := by decide +kernel
set_option maxRecDepth 100000 in
theorem tdep_V_23 : tdepV0 23 = true := by decide +kernel
set_option maxRecDepth 100000 in
theorem tdep_V_27 : tdepV0 27 = true := by decide +kernel
end Go.Proofs.YtgccmnnenhncpaaGreatDoor
