/- The bytes of a number, and the number of bytes: plain law. -/
import Derived.Test.YtakfcajmfgnchaaGreatDoorDFns
namespace Go.Proofs.YtakfcajmfgnchaaGreatDoor
open Go Go.Vm Go.RowKit
set_option linter.unusedSectionVars false
variable [Φ : Frz]
def beL : Nat → Int → List UInt8
 | 0, _ => []
 | k + 1, n => Vm.byteOf (V.int .u8 (IntKind.u8.wrap (n.fdiv ((256 ^ k : Nat) : Int)))) :: beL k n
def decF (a : Int) : List UInt8 → Int
 | [] => a
 | b :: r => decF (a * 256 + b.toNat) r
def sgnB (b : UInt8) : Int := if b.toNat ≥ 128 then (b.toNat : Int) - 256 else b.toNat
def dec : List UInt8 → Int
 | [] => 0
 | b :: r => decF (sgnB b) r
end Go.Proofs.YtakfcajmfgnchaaGreatDoor
