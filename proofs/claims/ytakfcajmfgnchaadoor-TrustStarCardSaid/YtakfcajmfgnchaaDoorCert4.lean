/- Certificates: what is read of bytes, whole. -/
import Derived.Test.YtakfcajmfgnchaaDoorCert3
namespace Go.Proofs.YtakfcajmfgnchaaDoor
open Go Go.Vm Go.RowKit
set_option linter.unusedVariables false
set_option maxRecDepth 100000
set_option linter.unusedSectionVars false
variable [Φ : Frz]
structure CD where
 k : List UInt8
 g : List UInt8
 l : List (List UInt8)
 f : Int
 u : Int
 ca : Bool
def m2 (x y : Int) : Int := if y > x then y else x
end Go.Proofs.YtakfcajmfgnchaaDoor
