/-
  FlowLocals: a case; a class of cases.
-/
import Derived.Test.YtebgepekllelaaaLawMore
namespace Go.Proofs.Ytebgepekllelaaa
open Go Vx

noncomputable def locOne (p w k : Nat) : Bool := allN 4 fun q => lawM [.and 0 7 p, .and 1 7 w, .and 2 15 k, .and 3 3 q] [[]] 8 (vars 4)
noncomputable def locCls (p w k : Nat) : Bool := allN 4 fun q => lawM [.and 0 7 p, .and 1 7 w, .and 3 3 q] (span 2 15 k (Nat.sub 16 k)) 8 (vars 4)
end Go.Proofs.Ytebgepekllelaaa
