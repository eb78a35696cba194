/- Getting one thing, of texts however long; what is cut within one. -/
import Derived.Test.YtakfcajmfgnchaaDoorDBack
namespace Go.Proofs.YtakfcajmfgnchaaDoor
open Go Go.Vm Go.RowKit
set_option linter.unusedSectionVars false
variable [Φ : Frz]
set_option linter.unusedVariables false
set_option maxRecDepth 100000
end Go.Proofs.YtakfcajmfgnchaaDoor
