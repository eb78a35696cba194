/- need.Adequate, need.Result: what they come to. -/
import Derived.Test.YtakfcajmfgnchaaGreatDoorAnyF
namespace Go.Proofs.YtakfcajmfgnchaaGreatDoor
open Go Go.Vm Go.RowKit
set_option linter.unusedVariables false
set_option maxRecDepth 100000
set_option linter.unusedSectionVars false
variable [Φ : Frz]
end Go.Proofs.YtakfcajmfgnchaaGreatDoor
