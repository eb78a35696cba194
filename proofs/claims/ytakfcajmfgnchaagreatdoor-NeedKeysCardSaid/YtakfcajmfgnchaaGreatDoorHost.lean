/- Whether a certificate is a host's: what it comes to. -/
import Derived.Test.YtakfcajmfgnchaaGreatDoorLabels
import Derived.Test.YtakfcajmfgnchaaGreatDoorBys
import Derived.Test.YtakfcajmfgnchaaGreatDoorVmc
namespace Go.Proofs.YtakfcajmfgnchaaGreatDoor
open Go Go.Vm Go.RowKit
set_option linter.unusedVariables false
set_option maxRecDepth 100000
set_option linter.unusedSectionVars false
variable [Φ : Frz]
structure HX where
 x : Value
 n : Nat
 cs : List V
 h : List UInt8
 i : Nat
end Go.Proofs.YtakfcajmfgnchaaGreatDoor
