/- Certificates: which may be; one's bytes; a key's form: what they come to. -/
import Derived.Test.YtakfcajmfgnchaaGreatDoorMay
namespace Go.Proofs.YtakfcajmfgnchaaGreatDoor
open Go Go.Vm Go.RowKit
set_option linter.unusedVariables false
set_option maxRecDepth 100000
set_option linter.unusedSectionVars false
variable [Φ : Frz]
structure IX where
 x : Value
 n : Nat
 cs : List V
 i : Nat
structure TH where
 t : Int
 o : List UInt8
 x : Value
 n : Nat
 cs : List V
 i : Nat
end Go.Proofs.YtakfcajmfgnchaaGreatDoor
