/- Whether certificates are linked: what it comes to. -/
import Derived.Test.YtakfcajmfgnchaaGreatDoorHost
import Derived.Test.YtakfcajmfgnchaaGreatDoorCert2
import Derived.Test.YtakfcajmfgnchaaGreatDoorDig
namespace Go.Proofs.YtakfcajmfgnchaaGreatDoor
open Go Go.Vm Go.RowKit
set_option linter.unusedVariables false
set_option maxRecDepth 100000
set_option linter.unusedSectionVars false
variable [Φ : Frz]
structure LK where
 b : Bool
 x : Value
 n : Nat
 cs : List V
 i : Nat
structure IN where
 x : Value
 n : Nat
 cs : List V
 s : List UInt8
 i : Nat
end Go.Proofs.YtakfcajmfgnchaaGreatDoor
