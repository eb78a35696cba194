/- The bytes of a number, and the number of bytes: plain law. -/
import Derived.Test.YthcoeoibejgaiaaDoorDFns
namespace Go.Proofs.YthcoeoibejgaiaaDoor
open Go Go.Vm Go.RowKit
set_option linter.unusedSectionVars false
variable [Φ : Frz]
def beL : Nat → Int → List UInt8
 | 0, _ => []
 | k + 1, n => Vm.byteOf (V.int .u8 (IntKind.u8.wrap (n.fdiv ((256 ^ k : Nat) : Int)))) :: beL k n
def decF (a : Int) : List UInt8 → Int
 | [] => a
 | b :: r => decF (a * 256 + b.toNat) r
def sgnB (b : UInt8) : Int := if b.toNat ≥ 128 then (b.toNat : Int) - 256 else b.toNat
def dec : List UInt8 → Int
 | [] => 0
 | b :: r => decF (sgnB b) r
theorem pow_pos256 (m : Nat) : (0 : Int) < ((256 ^ m : Nat) : Int) := by
 have := Nat.pow_pos (n := m) (show 0 < 256 by omega)
 omega
theorem pow_succ256 (m : Nat) : ((256 ^ (m + 1) : Nat) : Int) = 256 * ((256 ^ m : Nat) : Int) := by
 rw [Nat.pow_succ, Nat.mul_comm]; simp
theorem decF_bounds : ∀ (l : List UInt8) (a : Int), a * ((256 ^ l.length : Nat) : Int) ≤ decF a l ∧ decF a l + 1 ≤ (a + 1) * ((256 ^ l.length : Nat) : Int)
 | [], a => by simp [decF]
 | b :: r, a => by
  have hb := b.toNat_lt
  have ih := decF_bounds r (a * 256 + b.toNat)
  have hp := pow_pos256 r.length
  simp only [decF, List.length_cons, pow_succ256]
  generalize ((256 ^ r.length : Nat) : Int) = c at *
  have e1 : a * (256 * c) ≤ (a * 256 + b.toNat) * c := by
   rw [← Int.mul_assoc]
   exact Int.mul_le_mul_of_nonneg_right (by omega) (by omega)
  have e2 : (a * 256 + b.toNat + 1) * c ≤ (a + 1) * (256 * c) := by
   rw [← Int.mul_assoc]
   exact Int.mul_le_mul_of_nonneg_right (by omega) (by omega)
  omega
theorem dec_bounds (b : UInt8) (r : List UInt8) : -(128 * ((256 ^ r.length : Nat) : Int)) ≤ dec (b :: r) ∧ dec (b :: r) < 128 * ((256 ^ r.length : Nat) : Int) := by
 have hb := b.toNat_lt
 have h := decF_bounds r (sgnB b)
 have hp := pow_pos256 r.length
 have s1 : -128 ≤ sgnB b ∧ sgnB b ≤ 127 := by unfold sgnB; split <;> omega
 simp only [dec]
 generalize ((256 ^ r.length : Nat) : Int) = c at *
 have e1 : -128 * c ≤ sgnB b * c := Int.mul_le_mul_of_nonneg_right s1.1 (by omega)
 have e2 : (sgnB b + 1) * c ≤ 128 * c := Int.mul_le_mul_of_nonneg_right (by omega) (by omega)
 omega
theorem decF_append : ∀ (l : List UInt8) (a : Int) (b : UInt8), decF a (l ++ [b]) = decF a l * 256 + b.toNat
 | [], a, b => rfl
 | c :: r, a, b => by simp only [List.cons_append, decF]; exact decF_append r _ b
theorem dec_take {s : List UInt8} {i : Nat} (h0 : 1 ≤ i) (h1 : i < s.length) : dec (s.take (i + 1)) = dec (s.take i) * 256 + (s.getD i 0).toNat := by
 cases s with
 | nil => simp at h1
 | cons b r =>
  obtain ⟨j, rfl⟩ : ∃ j, i = j + 1 := ⟨i - 1, by omega⟩
  simp only [List.length_cons] at h1
  simp only [List.take_succ_cons, dec, List.getD_cons_succ]
  rw [List.take_add_one, List.getElem?_eq_getElem (by omega), Option.toList_some, decF_append, List.getD_eq_getElem?_getD, List.getElem?_eq_getElem (by omega), Option.getD_some]
theorem or_byte (n : Int) (b : Nat) (h1 : -36028797018963968 ≤ n) (h2 : n < 36028797018963968) (hb : b < 256) :
  IntKind.i64.wrap (((BitVec.ofInt 64 (n * 256) ||| BitVec.ofInt 64 (b : Int)).toNat : Nat) : Int) = n * 256 + b := by
 have e : BitVec.ofInt 64 (n * 256) = BitVec.ofInt 64 (((n % 72057594037927936).toNat : Int) * 256) := by
  apply BitVec.eq_of_toNat_eq
  rw [BitVec.toNat_ofInt, BitVec.toNat_ofInt]
  congr 1
  have : (2 : Int) ^ 64 = 18446744073709551616 := by decide
  simp only [Nat.reducePow]
  omega
 rw [e, bor_byte _ _ (by omega) hb, IntKind.wrap_i64]
 omega
end Go.Proofs.YthcoeoibejgaiaaDoor
