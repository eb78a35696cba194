/- Whether what is asked is large. -/
import Derived.Test.YtakfcajmfgnchaaGreatDoorNPlain
namespace Go.Proofs.YtakfcajmfgnchaaGreatDoor
open Go Go.Vm Go.RowKit
set_option linter.unusedVariables false
set_option linter.unusedSectionVars false
set_option maxRecDepth 100000
variable [Φ : Frz]
def largeT (LG : List UInt8 → List V → List V → Bool) : List V → Option (List (Bool × (V × St)))
 | [.agg [.bool _, .bool _, .str h, .bool _, .int .u8 _, .bool _, .lst _ _ _, .lst _ _ _, .lst _ n3 c3, .bool _, .int .u8 _, .lst _ n4 c4, .int .i64 _]] => some [(okT n3 c3 && okS n4 c4, (.bool (LG h c4 c3), []))]
 | _ => none
def largeV' (h : List UInt8) (c4 c3 : List V) : Bool := largeB h (c4.map aa) (tlD c3)
theorem largeT_ok (args : List V) (l : List (Bool × (V × St))) (o : V × St) (h : largeT largeV' args = some l) (ho : aF l = some o) : FnSat Tryz.prog 9 args [] (Is o) := by
 unfold largeT at h
 split at h
 ·rename_i pl rq hh mx co se x1 n1 c1 x2 n2 c2 x3 n3 c3 ha mo x4 n4 c4 ag
  cases h
  obtain ⟨hb, rfl⟩ := aX ho
  rw [Bool.and_eq_true] at hb
  obtain ⟨rs, rfl, rfl, g1, g2⟩ := okT_spec hb.1
  obtain ⟨ms, rfl, rfl, g3, g4⟩ := cF hb.2
  unfold largeV'
  rw [g2, g4]
  exact large_sat pl rq hh mx co se x1 n1 c1 x2 n2 c2 x3 rs ha mo x4 ms ag g3 g1
 ·cases h
theorem long_nil (x : Value) (l : List (List UInt8)) (h : l.length ≤ 9223372036854775807) : longOK (.lst x l.length (strs l)) .nilSlice [] = true := by
 have e1 : bv [] (.lst x l.length (strs l)) = some (true, l) := by
  simp only [bv, cg, aG, Nat.mul_one, Nat.beq_refl, bA, ao, Bool.and_self]
 unfold longOK
 rw [e1]
 show (true && (true && (Nat.ble l.length 9223372036854775807 && Nat.ble 0 9223372036854775807))) = true
 rw [Nat.ble_eq_true_of_le h]; rfl
end Go.Proofs.YtakfcajmfgnchaaGreatDoor
