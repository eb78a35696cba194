/- All the things of a text: what they come to. -/
import Derived.Test.YtakfcajmfgnchaaGreatDoorDGet2
namespace Go.Proofs.YtakfcajmfgnchaaGreatDoor
open Go Go.Vm Go.RowKit
set_option linter.unusedSectionVars false
variable [Φ : Frz]
set_option linter.unusedVariables false
set_option maxRecDepth 100000
abbrev IT := Int × List UInt8
def alF : Nat → List UInt8 → List IT → List IT × Int
 | 0, _, acc => (acc, 0)
 | k + 1, s, acc => if s = [] then (acc, 0) else if getE2 s = 0 then (if acc.length = 64 then ([], 40) else alF k (getR2 s) (acc ++ [(getT2 s, getX2 s)])) else ([], getE2 s)
structure AL where
 s : List UInt8
 acc : List IT
def allI (s : List UInt8) : List IT := (alF s.length s []).1
def allE (s : List UInt8) : Int := (alF s.length s []).2
end Go.Proofs.YtakfcajmfgnchaaGreatDoor
