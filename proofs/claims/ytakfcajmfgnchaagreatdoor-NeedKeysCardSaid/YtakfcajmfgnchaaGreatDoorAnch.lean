/- Whether certificates are anchored: what it comes to. -/
import Derived.Test.YtakfcajmfgnchaaGreatDoorLink
namespace Go.Proofs.YtakfcajmfgnchaaGreatDoor
open Go Go.Vm Go.RowKit
set_option linter.unusedVariables false
set_option maxRecDepth 100000
set_option linter.unusedSectionVars false
variable [Φ : Frz]
structure AN where
 x : Value
 n : Nat
 cs : List V
 now : Int
 y : Value
 m : Nat
 ds : List V
 i : Nat
end Go.Proofs.YtakfcajmfgnchaaGreatDoor
