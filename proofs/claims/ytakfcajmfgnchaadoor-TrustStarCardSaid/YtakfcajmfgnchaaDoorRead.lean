/- A chain's certificates: what they come to. -/
import Derived.Test.YtakfcajmfgnchaaDoorDec
import Derived.Test.YtakfcajmfgnchaaDoorAnch
namespace Go.Proofs.YtakfcajmfgnchaaDoor
open Go Go.Vm Go.RowKit
set_option linter.unusedVariables false
set_option maxRecDepth 100000
set_option linter.unusedSectionVars false
variable [Φ : Frz]
end Go.Proofs.YtakfcajmfgnchaaDoor
