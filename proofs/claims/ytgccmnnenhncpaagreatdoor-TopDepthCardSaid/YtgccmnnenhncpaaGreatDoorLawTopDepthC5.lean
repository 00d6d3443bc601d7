/-
  TopDepth: cases, run (5).
-/
import Derived.Test.YtgccmnnenhncpaaGreatDoorLawTopDepthS
namespace Go.Proofs.YtgccmnnenhncpaaGreatDoor
open Go Vx

noncomputable def tdepU5 (k : Nat) : Bool := runS 16 tdepL [⟨1, 31, k, 31⟩] [.and 0 31 k] 7 [.int .i64 (.var 0), .int .i64 (.var 1)]
noncomputable def tdepV5 (e : Nat) : Bool := runS 16 tdepL [⟨0, 31, e + 1, 31⟩] [.and 1 31 e] 7 [.int .i64 (.var 0), .int .i64 (.var 1)]
set_option maxRecDepth 100000 in
theorem tdep_U_0 : tdepU5 0 = true := by decide +kernel
set_option maxRecDepth 100000 in
theorem tdep_U_4 : tdepU5 4 = true := by decide +kernel
set_option maxRecDepth 100000 in
theorem tdep_U_8 : tdepU5 8 = true := by decide +kernel
set_option maxRecDepth 100000 in
theorem tdep_U_12 : tdepU5 12 = true := by decide +kernel
set_option maxRecDepth 100000 in
theorem tdep_U_16 : tdepU5 16 = true := by decide +kernel
set_option maxRecDepth 100000 in
theorem tdep_U_20 : tdepU5 20 = true := by decide +kernel
set_option maxRecDepth 100000 in
theorem tdep_U_24 : tdepU5 24 = true := by decide +kernel
set_option maxRecDepth 100000 in
theorem tdep_U_28 : tdepU5 28 = true := by decide +kernel
end Go.Proofs.YtgccmnnenhncpaaGreatDoor
