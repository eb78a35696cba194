/- Names: the labels of one: what they come to. -/
import Derived.Test.YtakfcajmfgnchaaGreatDoorMatch
namespace Go.Proofs.YtakfcajmfgnchaaGreatDoor
open Go Go.Vm Go.RowKit
set_option linter.unusedVariables false
set_option maxRecDepth 100000
set_option linter.unusedSectionVars false
variable [Φ : Frz]
structure LS where
 s : List UInt8
 o : List (List UInt8)
end Go.Proofs.YtakfcajmfgnchaaGreatDoor
