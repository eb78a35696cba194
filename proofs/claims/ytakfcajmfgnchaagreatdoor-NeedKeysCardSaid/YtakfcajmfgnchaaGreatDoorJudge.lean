/- How a chain is judged: what it comes to. -/
import Derived.Test.YtakfcajmfgnchaaGreatDoorRead
namespace Go.Proofs.YtakfcajmfgnchaaGreatDoor
open Go Go.Vm Go.RowKit
set_option linter.unusedVariables false
set_option maxRecDepth 100000
set_option linter.unusedSectionVars false
variable [Φ : Frz]
section
variable {h : List UInt8} {now : Int} {an : List (List UInt8)} {c : CR} {r : List CR}
end
end Go.Proofs.YtakfcajmfgnchaaGreatDoor
