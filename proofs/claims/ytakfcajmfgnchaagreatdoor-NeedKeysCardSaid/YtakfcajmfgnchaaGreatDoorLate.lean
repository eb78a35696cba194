/- Whether one of certificates is late: what it comes to. -/
import Derived.Test.YtakfcajmfgnchaaGreatDoorTlsa
namespace Go.Proofs.YtakfcajmfgnchaaGreatDoor
open Go Go.Vm Go.RowKit
set_option linter.unusedVariables false
set_option maxRecDepth 100000
set_option linter.unusedSectionVars false
variable [Φ : Frz]
structure LT where
 x : Value
 n : Nat
 cs : List V
 y : Value
 now : Int
 i : Nat
end Go.Proofs.YtakfcajmfgnchaaGreatDoor
