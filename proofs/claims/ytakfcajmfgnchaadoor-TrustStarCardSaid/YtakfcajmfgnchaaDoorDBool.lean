/- Truth values as bytes: what they come to. -/
import Derived.Test.YtakfcajmfgnchaaDoorDFns
namespace Go.Proofs.YtakfcajmfgnchaaDoor
open Go Go.Vm Go.RowKit
set_option linter.unusedSectionVars false
variable [Φ : Frz]
set_option linter.unusedVariables false
set_option maxRecDepth 100000
noncomputable def DT13 : Tab := ⟨noT, noL, noLks 9⟩
theorem DT13_ok : TabOk3 Tryd.prog DT13 := ⟨noT_ok, noL_ok, noLks_ok 9⟩
theorem bool_tree (b : Bool) (R : V → Prop) : runW Tryd.prog DT13 9 10 36 [.bool b] R =
  (
 bif b then R (V.str [255]) else R (V.str [0])) := by kernel_rfl
def boolS (b : Bool) : List UInt8 := bif b then [255] else [0]
def boolF : List V → Option V
 | [.bool b] => some (.str (boolS b))
 | _ => none
theorem bool_ok (args : List V) (v : V) (h : boolF args = some v) : FnSat Tryd.prog 36 args [] (Is (v, [])) := by
 unfold boolF at h
 split at h
 ·rename_i b
  cases h
  refine pureW_of (lim := 9) (n := 10) mixed DT13_ok rfl rfl ?_
  rw [bool_tree]
  cases b <;> rfl
 ·cases h
end Go.Proofs.YtakfcajmfgnchaaDoor
