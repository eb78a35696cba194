/- Whether a chain is matched by a record: what it comes to. -/
import Derived.Test.YtakfcajmfgnchaaGreatDoorLate
import Derived.Test.YtakfcajmfgnchaaGreatDoorReadU
namespace Go.Proofs.YtakfcajmfgnchaaGreatDoor
open Go Go.Vm Go.RowKit
set_option linter.unusedVariables false
set_option maxRecDepth 100000
set_option linter.unusedSectionVars false
variable [Φ : Frz]
def mA (l : List (List UInt8)) : List V := bif Nat.beq (rdN l) 0 then [] else shiftL 2 (rdA (rdG l 0) 1 (rdT l))
def mB (l : List (List UInt8)) : List V := shiftL 2 (strs (dL (rdG l 0)))
def mN (l : List (List UInt8)) (i : Nat) : List V := shiftL 2 (nmR l i)
structure MtAt (st : St) (l : List (List UInt8)) : Prop where
 b2 : (∃ t sz, st[2]? = some (.row (mA l) t sz)) ∨ ∃ z, st[2]? = some (.ro z (mA l))
 b3 : ∃ z, st[3]? = some (.ro z (mB l))
 b4 : ∃ z, st[4]? = some (.ro z (mN l 1))
 b5 : ∃ z, st[5]? = some (.ro z (mN l 2))
 b6 : ∃ z, st[6]? = some (.ro z (mN l 3))
structure MT where
 u : Int
 s : Int
 m : Int
 d : List UInt8
 x : Value
 n : Nat
 cs : List V
 now : Int
 i : Nat
def MT.l (z : MT) : List (List UInt8) := z.cs.map strOfV
end Go.Proofs.YtakfcajmfgnchaaGreatDoor
