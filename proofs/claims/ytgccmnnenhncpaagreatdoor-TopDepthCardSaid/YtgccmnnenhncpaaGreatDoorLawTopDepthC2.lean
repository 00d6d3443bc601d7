/-
  TopDepth: cases, run (2).
-/
import Derived.Test.YtgccmnnenhncpaaGreatDoorLawTopDepthS
namespace Go.Proofs.YtgccmnnenhncpaaGreatDoor
open Go Vx

noncomputable def tdepU2 (k : Nat) : Bool := runS 16 tdepL [⟨1, 31, k, 31⟩] [.and 0 31 k] 7 [.int .i64 (.var 0), .int .i64 (.var 1)]
noncomputable def tdepV2 (e : Nat) : Bool := runS 16 tdepL [⟨0, 31, e + 1, 31⟩] [.and 1 31 e] 7 [.int .i64 (.var 0), .int .i64 (.var 1)]
set_option maxRecDepth 100000 in
theorem tdep_V_2 : tdepV2 2 = true := by decide +kernel
set_option maxRecDepth 100000 in
theorem tdep_V_6 : tdepV2 6 = true := by decide +kernel
set_option maxRecDepth 100000 in
theorem tdep_V_10 : tdepV2 10 = true := by decide +kernel
set_option maxRecDepth 100000 in
theorem tdep_V_14 : tdepV2 14 = true := by decide +kernel
set_option maxRecDepth 100000 in
theorem tdep_V_18 : tdepV2 18 = true := by decide +kernel
set_option maxRecDepth 100000 in
theorem tdep_V_22 : tdepV2 22 = true := by decide +kernel
set_option maxRecDepth 100000 in
theorem tdep_V_26 : tdepV2 26 = true := by decide +kernel
set_option maxRecDepth 100000 in
theorem tdep_V_30 : tdepV2 30 = true := by decide +kernel
end Go.Proofs.YtgccmnnenhncpaaGreatDoor
