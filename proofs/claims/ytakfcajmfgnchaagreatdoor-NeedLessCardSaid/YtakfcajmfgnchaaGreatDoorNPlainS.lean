/- Needs without keys: whether two are the same; what is adequate for one that is not sealed. -/
import Derived.Test.YtakfcajmfgnchaaGreatDoorNPlain
namespace Go.Proofs.YtakfcajmfgnchaaGreatDoor
open Go Go.Vm Go.RowKit
set_option linter.unusedVariables false
set_option linter.unusedSectionVars false
set_option maxRecDepth 100000
variable [Φ : Frz]
noncomputable def NS0 : Tab := ⟨noT, noL, aR 9⟩
theorem NS0_ok : TabOk3 Tryz.prog NS0 := ⟨aC, aD, am 9⟩
theorem same_t (h h' : List UInt8) (a b : Bool) (t : Int) (a' b' : Bool) (t' : Int) (R : V → Prop) : runW Tryz.prog NS0 9 10 15 [.agg [.str h, .nilSlice, .bool a, .bool b, .int .u8 t], .agg [.str h', .nilSlice, .bool a', .bool b', .int .u8 t']] R =
  (
 bif h == h' then bif a == a' then bif b == b' then bif t == t' then R (V.bool true) else R (V.bool false) else R (V.bool false) else R (V.bool false) else R (V.bool
 false)) := by kernel_rfl
def sameT : List V → Option V
 | [.agg [.str h, .nilSlice, .bool a, .bool b, .int .u8 t], .agg [.str h', .nilSlice, .bool a', .bool b', .int .u8 t']] => some (.bool (h == h' && (a == a' && (b == b' && t == t'))))
 | _ => none
theorem sameT_ok (args : List V) (v : V) (e : sameT args = some v) : FnSat Tryz.prog 15 args [] (Is (v, [])) := by
 unfold sameT at e
 split at e
 ·rename_i h a b t h' a' b' t'
  cases e
  refine az (lim := 9) (n := 10) ay NS0_ok rfl rfl ?_
  rw [same_t]
  cases h == h' <;> cases a == a' <;> cases b == b' <;> cases t == t' <;> rfl
 ·cases e
end Go.Proofs.YtakfcajmfgnchaaGreatDoor
