/- Certificates: what is read of bytes: what it comes to. -/
import Derived.Test.YtakfcajmfgnchaaDoorCert2
import Derived.Test.YtakfcajmfgnchaaDoorDAll
namespace Go.Proofs.YtakfcajmfgnchaaDoor
open Go Go.Vm Go.RowKit
set_option linter.unusedVariables false
set_option maxRecDepth 100000
set_option linter.unusedSectionVars false
variable [Φ : Frz]
structure DE where
 k : List UInt8
 g : List UInt8
 f : Int
 u : Int
 ca : Bool
 ds : List V
 n : Nat
 i : Nat
end Go.Proofs.YtakfcajmfgnchaaDoor
