/-
  TopDepth: cases, run (7).
-/
import Derived.Test.YtgccmnnenhncpaaGreatDoorLawTopDepthS
namespace Go.Proofs.YtgccmnnenhncpaaGreatDoor
open Go Vx

noncomputable def tdepU7 (k : Nat) : Bool := runS 16 tdepL [⟨1, 31, k, 31⟩] [.and 0 31 k] 7 [.int .i64 (.var 0), .int .i64 (.var 1)]
noncomputable def tdepV7 (e : Nat) : Bool := runS 16 tdepL [⟨0, 31, e + 1, 31⟩] [.and 1 31 e] 7 [.int .i64 (.var 0), .int .i64 (.var 1)]
set_option maxRecDepth 100000 in
theorem tdep_U_3 : tdepU7 3 = true := by decide +kernel
set_option maxRecDepth 100000 in
theorem tdep_U_7 : tdepU7 7 = true := by decide +kernel
set_option maxRecDepth 100000 in
theorem tdep_U_11 : tdepU7 11 = true := by decide +kernel
set_option maxRecDepth 100000 in
theorem tdep_U_15 : tdepU7 15 = true := by decide +kernel
set_option maxRecDepth 100000 in
theorem tdep_U_19 : tdepU7 19 = true := by decide +kernel
set_option maxRecDepth 100000 in
theorem tdep_U_23 : tdepU7 23 = true := by decide +kernel
set_option maxRecDepth 100000 in
theorem tdep_U_27 : tdepU7 27 = true := by decide +kernel
end Go.Proofs.YtgccmnnenhncpaaGreatDoor
