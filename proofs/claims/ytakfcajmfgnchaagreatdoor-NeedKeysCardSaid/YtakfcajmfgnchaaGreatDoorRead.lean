/- A chain's certificates: what they come to. -/
import Derived.Test.YtakfcajmfgnchaaGreatDoorDec
import Derived.Test.YtakfcajmfgnchaaGreatDoorAnch
namespace Go.Proofs.YtakfcajmfgnchaaGreatDoor
open Go Go.Vm Go.RowKit
set_option linter.unusedVariables false
set_option maxRecDepth 100000
set_option linter.unusedSectionVars false
variable [Φ : Frz]
def goodP : List (List UInt8) → List (List UInt8)
 | [] => []
 | s :: r => bif decE s == 0 then s :: goodP r else []
def readS (l : List (List UInt8)) : List (List UInt8) := goodP (l.take 4)
def rdG (l : List (List UInt8)) (j : Nat) : List UInt8 := l.getD j []
def rdA (s : List UInt8) (k : Nat) (r : List V) : List V := .str (dK s) :: .str (dG s) :: .nos k (dN s) :: .int .i64 (dF s) :: .int .i64 (dU s) :: .bool (dCa s) :: r
def rdN (l : List (List UInt8)) : Nat := (readS l).length
end Go.Proofs.YtakfcajmfgnchaaGreatDoor
