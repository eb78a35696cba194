/- The bytes of a number, and the number of bytes: plain law. -/
import Derived.Test.YtakfcajmfgnchaaDoorDFns
namespace Go.Proofs.YtakfcajmfgnchaaDoor
open Go Go.Vm Go.RowKit
set_option linter.unusedSectionVars false
variable [Φ : Frz]
def beL : Nat → Int → List UInt8
 | 0, _ => []
 | k + 1, n => Vm.byteOf (V.int .u8 (IntKind.u8.wrap (n.fdiv ((256 ^ k : Nat) : Int)))) :: beL k n
def decF (a : Int) : List UInt8 → Int
 | [] => a
 | b :: r => decF (a * 256 + b.toNat) r
def sgnB (b : UInt8) : Int := if b.toNat ≥ 128 then (b.toNat : Int) - 256 else b.toNat
def dec : List UInt8 → Int
 | [] => 0
 | b :: r => decF (sgnB b) r
theorem beL_len (n : Int) : ∀ m, (beL m n).length = m
 | 0 => rfl
 | m + 1 => by simp [beL, beL_len n m]
end Go.Proofs.YtakfcajmfgnchaaDoor
