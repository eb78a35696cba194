/- TrustTimes: what it comes to. -/
import Derived.Test.YtakfcajmfgnchaaDoorLong15
import Derived.Test.YtakfcajmfgnchaaDoorAwake15
namespace Go.Proofs.YtakfcajmfgnchaaDoor
open Go Go.Vm Go.RowKit
set_option linter.unusedVariables false
set_option maxRecDepth 100000
set_option linter.unusedSectionVars false
variable [Φ : Frz]
theorem viewS_lst (st : St) (x : Value) (l : List (List UInt8)) : viewS st (.lst x l.length (strs l)) = some (true, l) := by
 simp only [viewS, viewC, strs_len, Nat.mul_one, Nat.beq_refl, strs_isStr, strs_strOf, Bool.and_self]
theorem lo_lst (st : St) (x : Value) (l : List (List UInt8)) (h : l.length ≤ 9223372036854775807) : loOK (.lst x l.length (strs l)) st = true ∧ loB (.lst x l.length (strs l)) st = longS l := by
 unfold loOK loB
 rw [viewS_lst]
 exact ⟨by show (true && Nat.ble l.length 9223372036854775807) = true; rw [Nat.ble_eq_true_of_le h]; rfl, rfl⟩
end Go.Proofs.YtakfcajmfgnchaaDoor
