/- The certificates of a chain, of whatever number: one form. -/
import Derived.Test.YtakfcajmfgnchaaGreatDoorJudge
namespace Go.Proofs.YtakfcajmfgnchaaGreatDoor
open Go Go.Vm Go.RowKit
set_option linter.unusedVariables false
set_option maxRecDepth 100000
set_option linter.unusedSectionVars false
variable [Φ : Frz]
def rdT (l : List (List UInt8)) : List V := match rdN l with
 | 2 => rdA (rdG l 1) 2 []
 | 3 => rdA (rdG l 1) 2 (rdA (rdG l 2) 3 [])
 | 4 => rdA (rdG l 1) 2 (rdA (rdG l 2) 3 (rdA (rdG l 3) 4 []))
 | _ => []
def nmR (l : List (List UInt8)) (i : Nat) : List V := bif Nat.blt i (rdN l) then strs (dL (rdG l i)) else []
structure RdAt (st : St) (l : List (List UInt8)) : Prop where
 b0 : st[0]? = some (.row (rdA (rdG l 0) 1 (rdT l)) 70 6)
 b1 : st[1]? = some (.ro true (strs (dL (rdG l 0))))
 b2 : st[2]? = some (.ro true (nmR l 1))
 b3 : st[3]? = some (.ro true (nmR l 2))
 b4 : st[4]? = some (.ro true (nmR l 3))
end Go.Proofs.YtakfcajmfgnchaaGreatDoor
