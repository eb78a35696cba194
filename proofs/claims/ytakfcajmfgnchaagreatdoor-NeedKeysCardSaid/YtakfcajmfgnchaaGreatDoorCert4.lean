/- Certificates: what is read of bytes, whole. -/
import Derived.Test.YtakfcajmfgnchaaGreatDoorCert3
namespace Go.Proofs.YtakfcajmfgnchaaGreatDoor
open Go Go.Vm Go.RowKit
set_option linter.unusedVariables false
set_option maxRecDepth 100000
set_option linter.unusedSectionVars false
variable [Φ : Frz]
structure CD where
 k : List UInt8
 g : List UInt8
 l : List (List UInt8)
 f : Int
 u : Int
 ca : Bool
def m2 (x y : Int) : Int := if y > x then y else x
def decT (L : List IT) : Option CD := match L with
 | [x0, x1, x2, x3, x4, x5] =>
  bif (x0.1 == 48) && ((x1.1 == 4) && ((x2.1 == 48) && ((x3.1 == 2) && ((x4.1 == 2) && (x5.1 == 1))))) then
   (bif onlyB x0.2 4 then
    (bif m2 (m2 (m2 (allE x2.2) (readE x3.2)) (readE x4.2)) (rbE x5.2) != 0 then none else
     (bif (allI x2.2).all (fun y => y.1 == 130) then
      (bif mayC (getX2 x0.2) x1.2 (readN x3.2) (readN x4.2) && ((allI x2.2).map (·.2)).all patN then some ⟨getX2 x0.2, x1.2, (allI x2.2).map (·.2), readN x3.2, readN x4.2, x5.2 == [255]⟩ else none)
     else none))
   else none)
  else none
 | _ => none
def decC (s : List UInt8) : Option CD := bif onlyB s 48 then (bif allE (getX2 s) != 0 then none else decT (allI (getX2 s))) else none
def decR (s : List UInt8) : Option CD := bif decide ((s.length : Int) > 512) then none else decC s
def decE (s : List UInt8) : Int := bif decide ((s.length : Int) > 512) then 40 else (match decC s with
 | some _ => 0
 | none => 4)
end Go.Proofs.YtakfcajmfgnchaaGreatDoor
