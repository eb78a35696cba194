/- The program's digest of bytes: what it comes to. -/
import Derived.Test.YtakfcajmfgnchaaGreatDoorBys
namespace Go.Proofs.YtakfcajmfgnchaaGreatDoor
open Go Go.Vm Go.RowKit
set_option linter.unusedVariables false
set_option maxRecDepth 100000
set_option linter.unusedSectionVars false
variable [Φ : Frz]
structure DX where
 s : List UInt8
 cs : List V
structure D3 where
 la : List V
 x : W8
 off : Nat
 len : Nat
 cc : Nat
 z : Nat
end Go.Proofs.YtakfcajmfgnchaaGreatDoor
