/- Certificates: what is read of bytes, as a table tells it. -/
import Derived.Test.YtakfcajmfgnchaaDoorCert4
namespace Go.Proofs.YtakfcajmfgnchaaDoor
open Go Go.Vm Go.RowKit
set_option linter.unusedVariables false
set_option linter.unusedSectionVars false
set_option maxRecDepth 100000
variable [Φ : Frz]
end Go.Proofs.YtakfcajmfgnchaaDoor
