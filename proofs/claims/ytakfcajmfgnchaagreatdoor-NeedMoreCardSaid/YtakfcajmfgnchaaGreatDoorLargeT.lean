/- Whether what is asked is large. -/
import Derived.Test.YtakfcajmfgnchaaGreatDoorNPlain
namespace Go.Proofs.YtakfcajmfgnchaaGreatDoor
open Go Go.Vm Go.RowKit
set_option linter.unusedVariables false
set_option linter.unusedSectionVars false
set_option maxRecDepth 100000
variable [Φ : Frz]
theorem long_nil (x : Value) (l : List (List UInt8)) (h : l.length ≤ 9223372036854775807) : longOK (.lst x l.length (strs l)) .nilSlice [] = true := by
 have e1 : viewS [] (.lst x l.length (strs l)) = some (true, l) := by
  simp only [viewS, viewC, strs_len, Nat.mul_one, Nat.beq_refl, strs_isStr, strs_strOf, Bool.and_self]
 unfold longOK
 rw [e1]
 show (true && (true && (Nat.ble l.length 9223372036854775807 && Nat.ble 0 9223372036854775807))) = true
 rw [Nat.ble_eq_true_of_le h]; rfl
end Go.Proofs.YtakfcajmfgnchaaGreatDoor
