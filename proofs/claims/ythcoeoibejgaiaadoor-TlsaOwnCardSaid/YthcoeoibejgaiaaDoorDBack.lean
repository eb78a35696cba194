/- DerBack and DerOne: what they come to. -/
import Derived.Test.YthcoeoibejgaiaaDoorDFns
namespace Go.Proofs.YthcoeoibejgaiaaDoor
open Go Go.Vm Go.RowKit
set_option linter.unusedSectionVars false
variable [Φ : Frz]
set_option linter.unusedVariables false
set_option maxRecDepth 100000
theorem ofNat_byte (a : UInt8) : UInt8.ofNat a.toNat = a := by simp
theorem size_inv (r : List UInt8) (h : sizeE r = 0) : lenB (sizeN r) ++ r.drop (sizeU r) = r ∧ (lenB (sizeN r)).length = sizeU r ∧ sizeU r ≤ r.length := by
 unfold sizeE sizeN sizeU at *
 cases r with
 | nil => simp [sizeA] at h
 | cons a r =>
  have ha := a.toNat_lt
  by_cases h1 : a.toNat ≤ 127
  ·have e : sizeA (a :: r) = (a.toNat, 1, 0) := by simp only [sizeA]; rw [if_pos h1]
   rw [e]
   have : lenB a.toNat = [a] := by unfold lenB; rw [if_neg (by omega), if_neg (by omega), ofNat_byte]
   simp [this]
  ·by_cases h2 : a.toNat = 129
   ·cases r with
    | nil => simp [sizeA, h2] at h
    | cons b r =>
     have hb := b.toNat_lt
     by_cases h3 : b.toNat ≤ 127
     ·simp [sizeA, h2, h3] at h
     ·have e : sizeA (a :: b :: r) = (b.toNat, 2, 0) := by simp only [sizeA]; rw [if_neg h1, if_pos h2, if_neg h3]
      rw [e]
      have ea : a = 129 := UInt8.toNat_inj.1 h2
      have : lenB b.toNat = [129, b] := by unfold lenB; rw [if_neg (by omega), if_pos (by omega), ofNat_byte]
      simp [this, ea]
   ·by_cases h3 : a.toNat = 130
    ·cases r with
     | nil => simp [sizeA, h3] at h
     | cons b r =>
      have hb := b.toNat_lt
      by_cases h4 : b.toNat = 0
      ·simp [sizeA, h3, h4] at h
      ·cases r with
       | nil => simp [sizeA, h3, h4] at h
       | cons c r =>
        have hc := c.toNat_lt
        have e : sizeA (a :: b :: c :: r) = (b.toNat * 256 + c.toNat, 3, 0) := by simp only [sizeA]; rw [if_neg h1, if_neg h2, if_pos h3, if_neg h4]
        rw [e]
        have ea : a = 130 := UInt8.toNat_inj.1 h3
        have e1 : UInt8.ofNat ((b.toNat * 256 + c.toNat) / 256) = b := by
         rw [show (b.toNat * 256 + c.toNat) / 256 = b.toNat by omega, ofNat_byte]
        have e2 : UInt8.ofNat (b.toNat * 256 + c.toNat) = c := by
         apply UInt8.toNat_inj.1
         simp only [UInt8.toNat_ofNat']
         omega
        have : lenB (b.toNat * 256 + c.toNat) = [130, b, c] := by unfold lenB; rw [if_pos (by omega), e1, e2]
        simp [this, ea]
    ·simp [sizeA, h1, h2, h3] at h
theorem get_put {s : List UInt8} (h : getE s = 0) : okTag (getT s) = true ∧ putE (getT s) (getX s) = 0 ∧ putB (getT s) (getX s) ++ getR s = s := by
 cases s with
 | nil => simp [getE] at h
 | cons t r =>
  have ht := t.toNat_lt
  have h0 := h
  simp only [getE] at h
  by_cases h1 : t.toNat % 32 = 31
  ·rw [if_pos h1] at h; omega
  rw [if_neg h1] at h
  by_cases h2 : sizeE r = 0
  ·rw [if_pos h2] at h
   by_cases h3 : r.length < sizeU r + sizeN r
   ·rw [if_pos h3] at h; omega
   have hi := size_inv r h2
   have hs := size_small r
   have e1 : getT (t :: r) = (t.toNat : Int) := by unfold getT; rw [if_pos h0]; rfl
   have e2 : getX (t :: r) = (r.drop (sizeU r)).take (sizeN r) := by unfold getX; rw [if_pos h0]; rfl
   have e3 : getR (t :: r) = (r.drop (sizeU r)).drop (sizeN r) := by unfold getR; rw [if_pos h0]; rfl
   have e4 : ((r.drop (sizeU r)).take (sizeN r)).length = sizeN r := by simp; omega
   have n1 : ¬ (t.toNat : Int) % 32 = 31 := by omega
   rw [e1, e2, e3]
   refine ⟨by simp [okTag]; omega, ?_, ?_⟩
   ·unfold putE; rw [if_neg n1, if_neg (by rw [e4]; omega)]
   ·unfold putB; rw [if_neg n1, if_neg (by rw [e4]; omega), e4]
    simp only [Int.toNat_natCast, ofNat_byte, List.cons_append, List.append_assoc, List.take_append_drop, hi.1]
  ·rw [if_neg h2] at h; exact absurd h h2
theorem lenB_len (n : Nat) : (lenB n).length ≤ 3 := by unfold lenB; (repeat' split) <;> simp
theorem putB_len (t : Int) (x : List UInt8) : (putB t x).length ≤ x.length + 4 := by
 have := lenB_len x.length
 unfold putB; (repeat' split) <;> simp <;> omega
end Go.Proofs.YthcoeoibejgaiaaDoor
