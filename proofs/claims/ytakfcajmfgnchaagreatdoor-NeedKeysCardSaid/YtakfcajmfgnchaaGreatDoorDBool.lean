/- Truth values as bytes: what they come to. -/
import Derived.Test.YtakfcajmfgnchaaGreatDoorDFns
namespace Go.Proofs.YtakfcajmfgnchaaGreatDoor
open Go Go.Vm Go.RowKit
set_option linter.unusedSectionVars false
variable [Φ : Frz]
set_option linter.unusedVariables false
set_option maxRecDepth 100000
def rbE (s : List UInt8) : Int := if s = [255] ∨ s = [0] then 0 else 4
end Go.Proofs.YtakfcajmfgnchaaGreatDoor
