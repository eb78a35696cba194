/- Whatever is asked: how large it is. -/
import Derived.Test.YtakfcajmfgnchaaGreatDoorLong
namespace Go.Proofs.YtakfcajmfgnchaaGreatDoor
open Go Go.Vm Go.RowKit
set_option linter.unusedVariables false
set_option linter.unusedSectionVars false
set_option maxRecDepth 100000
variable [Φ : Frz]
structure AK where
 plain : Bool
 req : Bool
 host : List UInt8
 mx : Bool
 code : Int
 sec : Bool
 x1 : Value
 n1 : Nat
 c1 : List V
 x2 : Value
 n2 : Nat
 c2 : List V
 x3 : Value
 n3 : Nat
 c3 : List V
 has : Bool
 mode : Int
 x4 : Value
 n4 : Nat
 c4 : List V
 age : Int
def AK.v (a : AK) : V := .agg [.bool a.plain, .bool a.req, .str a.host, .bool a.mx, .int .u8 a.code, .bool a.sec, .lst a.x1 a.n1 a.c1, .lst a.x2 a.n2 a.c2, .lst a.x3 a.n3 a.c3, .bool a.has, .int .u8 a.mode, .lst a.x4 a.n4 a.c4, .int .i64 a.age]
end Go.Proofs.YtakfcajmfgnchaaGreatDoor
