/- Getting one thing, of texts however long; what is cut within one. -/
import Derived.Test.YtakfcajmfgnchaaGreatDoorDBack
namespace Go.Proofs.YtakfcajmfgnchaaGreatDoor
open Go Go.Vm Go.RowKit
set_option linter.unusedSectionVars false
variable [Φ : Frz]
set_option linter.unusedVariables false
set_option maxRecDepth 100000
def getE2 : List UInt8 → Int
 | [] => 8
 | t :: r => if t.toNat % 32 = 31 then 4 else if sizeE r = 0 then (if IntKind.i64.wrap (((r.length + 1 : Nat) : Int) - ((1 + sizeU r : Nat) : Int)) < sizeN r then 8 else 0) else sizeE r
def getT2 (s : List UInt8) : Int := if getE2 s = 0 then ((s.getD 0 0).toNat : Int) else 0
def getX2 (s : List UInt8) : List UInt8 := if getE2 s = 0 then ((s.drop 1).drop (sizeU (s.drop 1))).take (sizeN (s.drop 1)) else []
def getR2 (s : List UInt8) : List UInt8 := if getE2 s = 0 then ((s.drop 1).drop (sizeU (s.drop 1))).drop (sizeN (s.drop 1)) else []
end Go.Proofs.YtakfcajmfgnchaaGreatDoor
