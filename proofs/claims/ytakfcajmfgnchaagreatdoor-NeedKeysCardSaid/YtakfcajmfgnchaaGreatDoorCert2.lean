/- Certificates: which may be, one's bytes: what they come to. -/
import Derived.Test.YtakfcajmfgnchaaGreatDoorCert1
import Derived.Test.YtakfcajmfgnchaaGreatDoorDInts
import Derived.Test.YtakfcajmfgnchaaGreatDoorDBool
import Derived.Test.YtakfcajmfgnchaaGreatDoorDBack
namespace Go.Proofs.YtakfcajmfgnchaaGreatDoor
open Go Go.Vm Go.RowKit
set_option linter.unusedVariables false
set_option maxRecDepth 100000
set_option linter.unusedSectionVars false
variable [Φ : Frz]
structure CT where
 k : List UInt8
 g : List UInt8
 x : Value
 n : Nat
 cs : List V
 f : Int
 u : Int
 ca : Bool
def CT.cells (c : CT) : List V := [.str c.k, .str c.g, .lst c.x c.n c.cs, .int .i64 c.f, .int .i64 c.u, .bool c.ca]
def CT.v (c : CT) : V := .agg [.str c.k, .str c.g, .lst c.x c.n c.cs, .int .i64 c.f, .int .i64 c.u, .bool c.ca]
def mayC (k g : List UInt8) (f u : Int) : Bool := decide ((k.length : Int) > 0) && (decide ((k.length : Int) ≤ 64) && (((g.length : Int) == 32) && (decide (f ≥ 0) && (decide (f ≤ 1099511627776) && (decide (u ≥ 0) && decide (u ≤ 1099511627776))))))
theorem real_agg_mk {m : List MB} {l : List V} {xs : List Value} (h : realL m l = some xs) : real m (.agg l) = some (.agg xs.toArray) := by simp only [real, h]
structure EN where
 c : CT
 i : Nat
end Go.Proofs.YtakfcajmfgnchaaGreatDoor
