/-
  TopDepth: cases, run (6).
-/
import Derived.Test.YtgccmnnenhncpaaGreatDoorLawTopDepthS
namespace Go.Proofs.YtgccmnnenhncpaaGreatDoor
open Go Vx

noncomputable def tdepU6 (k : Nat) : Bool := runS 16 tdepL [⟨1, 31, k, 31⟩] [.and 0 31 k] 7 [.int .i64 (.var 0), .int .i64 (.var 1)]
noncomputable def tdepV6 (e : Nat) : Bool := runS 16 tdepL [⟨0, 31, e + 1, 31⟩] [.and 1 31 e] 7 [.int .i64 (.var 0), .int .i64 (.var 1)]
set_option maxRecDepth 100000 in
theorem tdep_V_0 : tdepV6 0 = true := by decide +kernel
set_option maxRecDepth 100000 in
theorem tdep_V_4 : tdepV6 4 = true := by decide +kernel
set_option maxRecDepth 100000 in
theorem tdep_V_8 : tdepV6 8 = true := by decide +kernel
set_option maxRecDepth 100000 in
theorem tdep_V_12 : tdepV6 12 = true := by decide +kernel
set_option maxRecDepth 100000 in
theorem tdep_V_16 : tdepV6 16 = true := by decide +kernel
set_option maxRecDepth 100000 in
theorem tdep_V_20 : tdepV6 20 = true := by decide +kernel
set_option maxRecDepth 100000 in
theorem tdep_V_24 : tdepV6 24 = true := by decide +kernel
set_option maxRecDepth 100000 in
theorem tdep_V_28 : tdepV6 28 = true := by decide +kernel
end Go.Proofs.YtgccmnnenhncpaaGreatDoor
