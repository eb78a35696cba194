/- Truth values as bytes: what they come to. -/
import Derived.Test.YthcoeoibejgaiaaDoorDFns
namespace Go.Proofs.YthcoeoibejgaiaaDoor
open Go Go.Vm Go.RowKit
set_option linter.unusedSectionVars false
variable [Φ : Frz]
set_option linter.unusedVariables false
set_option maxRecDepth 100000
noncomputable def DT13 : Tab := ⟨noT, noL, noLks 9⟩
theorem DT13_ok : TabOk3 Tryd.prog DT13 := ⟨noT_ok, noL_ok, noLks_ok 9⟩
theorem rdbool_tree (s : List UInt8) (R : V → Prop) : runW Tryd.prog DT13 9 10 36 [.str s] R =
  (
 bif !s == [255] then bif !s == [0] then R (V.tuple [V.bool false, V.int IntKind.i64 4]) else R (V.tuple [V.bool (s == [255]), V.int IntKind.i64 0]) else R (V.tuple
 [V.bool (s == [255]), V.int IntKind.i64 0])) := by kernel_rfl
def rbE (s : List UInt8) : Int := if s = [255] ∨ s = [0] then 0 else 4
def rdboolF : List V → Option V
 | [.str s] => some (.tuple [.bool (s == [255]), .int .i64 (rbE s)])
 | _ => none
theorem rdbool_ok (args : List V) (v : V) (h : rdboolF args = some v) : FnSat Tryd.prog 36 args [] (Is (v, [])) := by
 unfold rdboolF at h
 split at h
 ·rename_i s
  cases h
  refine pureW_of (lim := 9) (n := 10) mixed DT13_ok rfl rfl ?_
  rw [rdbool_tree]
  by_cases h1 : s = [255]
  ·subst h1; rfl
  ·have e1 : (s == [255]) = false := by simpa using h1
   by_cases h2 : s = [0]
   ·subst h2; rfl
   ·have e2 : (s == [0]) = false := by simpa using h2
    have e3 : rbE s = 4 := by unfold rbE; rw [if_neg (by simp [h1, h2])]
    rw [e1, e2, e3]; rfl
 ·cases h
end Go.Proofs.YthcoeoibejgaiaaDoor
