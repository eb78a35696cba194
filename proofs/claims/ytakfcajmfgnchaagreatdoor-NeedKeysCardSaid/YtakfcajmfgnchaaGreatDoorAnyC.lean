/- Whether one of records matches a chain: what it comes to. -/
import Derived.Test.YtakfcajmfgnchaaGreatDoorUsables
namespace Go.Proofs.YtakfcajmfgnchaaGreatDoor
open Go Go.Vm Go.RowKit
set_option linter.unusedVariables false
set_option maxRecDepth 100000
set_option linter.unusedSectionVars false
variable [Φ : Frz]
def ayF (y1 : Value) (p : Value) (k : Nat) (ds : List V) (y2 : Value) (h : List UInt8) (y3 : Value) (now : Int) : V := .func (.func 40) [] [.lptr y1 1 [.lst p k ds] 0, .lptr y2 1 [.str h] 0, .lptr y3 1 [.int .i64 now] 0]
structure AY where
 x : Value
 n : Nat
 cs : List V
 y1 : Value
 p : Value
 k : Nat
 ds : List V
 y2 : Value
 h : List UInt8
 y3 : Value
 now : Int
 i : Nat
def AY.f (z : AY) : V := ayF z.y1 z.p z.k z.ds z.y2 z.h z.y3 z.now
end Go.Proofs.YtakfcajmfgnchaaGreatDoor
