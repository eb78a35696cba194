/- The numbers of der: what Int and ReadInt come to. -/
import Derived.Test.YtakfcajmfgnchaaGreatDoorDMath
namespace Go.Proofs.YtakfcajmfgnchaaGreatDoor
open Go Go.Vm Go.RowKit
set_option linter.unusedSectionVars false
variable [Φ : Frz]
set_option linter.unusedVariables false
set_option maxRecDepth 100000
def manyI (n : Int) : Int := if -128 ≤ n ∧ n ≤ 127 then 1 else if -32768 ≤ n ∧ n ≤ 32767 then 2 else if -8388608 ≤ n ∧ n ≤ 8388607 then 3 else if -2147483648 ≤ n ∧ n ≤ 2147483647 then 4 else if -549755813888 ≤ n ∧ n ≤ 549755813887 then 5 else if -140737488355328 ≤ n ∧ n ≤ 140737488355327 then 6 else if -36028797018963968 ≤ n ∧ n ≤ 36028797018963967 then 7 else 8
structure IS where
 n : Int
 m : Int
def intL (n : Int) : List UInt8 := beL (manyI n).toNat n
structure RS where
 s : List UInt8
 n : Int
 i : Int
def readE (s : List UInt8) : Int := if s.length < 1 ∨ 8 < s.length then 4 else if intL (dec s) = s then 0 else 4
def readN (s : List UInt8) : Int := if readE s = 0 then dec s else 0
end Go.Proofs.YtakfcajmfgnchaaGreatDoor
