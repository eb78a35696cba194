/- Certificates: what is read of bytes: what it comes to. -/
import Derived.Test.YtakfcajmfgnchaaGreatDoorCert2
import Derived.Test.YtakfcajmfgnchaaGreatDoorDAll
namespace Go.Proofs.YtakfcajmfgnchaaGreatDoor
open Go Go.Vm Go.RowKit
set_option linter.unusedVariables false
set_option maxRecDepth 100000
set_option linter.unusedSectionVars false
variable [Φ : Frz]
def onlyB (s : List UInt8) (t : Int) : Bool := (getE2 s == 0) && ((getR2 s == []) && (getT2 s == t))
structure DE where
 k : List UInt8
 g : List UInt8
 f : Int
 u : Int
 ca : Bool
 ds : List V
 n : Nat
 i : Nat
end Go.Proofs.YtakfcajmfgnchaaGreatDoor
