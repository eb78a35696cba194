/- Certificates: what is read of bytes, as a table tells it. -/
import Derived.Test.YtakfcajmfgnchaaGreatDoorCert4
namespace Go.Proofs.YtakfcajmfgnchaaGreatDoor
open Go Go.Vm Go.RowKit
set_option linter.unusedVariables false
set_option linter.unusedSectionVars false
set_option maxRecDepth 100000
variable [Φ : Frz]
def dCd (s : List UInt8) : CD := (decR s).getD ⟨[], [], [], 0, 0, false⟩
def dK (s : List UInt8) : List UInt8 := (dCd s).k
def dG (s : List UInt8) : List UInt8 := (dCd s).g
def dL (s : List UInt8) : List (List UInt8) := (dCd s).l
def dN (s : List UInt8) : Nat := (dL s).length
def dF (s : List UInt8) : Int := (dCd s).f
def dU (s : List UInt8) : Int := (dCd s).u
def dCa (s : List UInt8) : Bool := (dCd s).ca
end Go.Proofs.YtakfcajmfgnchaaGreatDoor
