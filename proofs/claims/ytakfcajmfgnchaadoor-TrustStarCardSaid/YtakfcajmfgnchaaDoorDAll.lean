/- All the things of a text: what they come to. -/
import Derived.Test.YtakfcajmfgnchaaDoorDGet2
namespace Go.Proofs.YtakfcajmfgnchaaDoor
open Go Go.Vm Go.RowKit
set_option linter.unusedSectionVars false
variable [Φ : Frz]
set_option linter.unusedVariables false
set_option maxRecDepth 100000
abbrev IT := Int × List UInt8
structure AL where
 s : List UInt8
 acc : List IT
end Go.Proofs.YtakfcajmfgnchaaDoor
